/- Functions of the program, and what they come to. -/
import Derived.Test.YtgmadfpnljibhaaGreatBlocksBentF13
import Derived.Deep.RegionLaw
import Derived.Laws.Externs
import Derived.Laws.IdiomCopy
import Derived.Laws.NewBlocks
import Derived.Lib.AppendZerosOnto
import Derived.Lib.Overlaps
import Derived.Lib.SliceRun
import Derived.Lib.Walk
import Derived.Shelf.RegionOpenPlain
import Derived.Shelf.Spec.SlicesInsert
import Derived.WalkKit
namespace Go.Tf
noncomputable section
open Go.Proofs
set_option synthInstance.maxHeartbeats 400000
set_option synthInstance.maxSize 10000
set_option linter.unusedVariables false
set_option linter.unusedSimpArgs false
set_option maxRecDepth 100000
section
def yqP:Code:=(Tryz.f246.body).getD .skip
def ywD:Env:=zj3 TT [] [(4096,(.pr .fz .fz)),(28800,(.pr .fz .fz)),(41472,(.pr .fz .fz)),(49280,(.pr .fz .fz))]
theorem yX4:FrOk Tryz.prog ⟨ywD,67,fun _=>none⟩ yqP:=zj7 yb yc trivial
def yIU:Nat→Option Seg:=fun _=>none
def ydK:Shape:=⟨[(0,false,[.ptr 1000000000 0]),(3,false,[.ptr 0 0]),(4,false,[.at 800000000]),(5,false,[.bool]),(6,false,[.int .i64])],[(0,[.int .i64,.fz tI]),(1000000000,[.int .i64,.int .i64,.int .i64,.at 800000001,.int .i64,.int .i64,.int .i64,.int .i64,.int .i64,.at 800000002,.int .i64,.bool,.bool])],[(800000000,tW,(.pr .fz .fz)),(800000001,tM,(.pr (.ow .fz) (.pr (.ow (.pr .fz .fz)) (.pr .fz (.ow .fz))))),(800000002,tW,(.pr .fz .fz))]⟩
def yjY:Shape:=⟨[(0,false,[.ptr 1000000000 0]),(3,false,[.ptr 0 0]),(4,false,[.at 800000000]),(5,false,[.cb false]),(6,false,[.ci .i64 0])],[(0,[.int .i64,.fz tI]),(1000000000,[.int .i64,.int .i64,.int .i64,.at 800000001,.int .i64,.int .i64,.int .i64,.int .i64,.int .i64,.at 800000002,.int .i64,.bool,.bool])],[(800000000,tW,(.pr .fz .fz)),(800000001,tM,(.pr (.ow .fz) (.pr (.ow (.pr .fz .fz)) (.pr .fz (.ow .fz))))),(800000002,tW,(.pr .fz .fz))]⟩
def yjJ:Shape:=⟨[(0,false,[.ptr 1000000000 0]),(3,false,[.ptr 0 0]),(4,false,[.at 800000000]),(5,false,[.bool])],[(0,[.int .i64,.fz tI]),(1000000000,[.int .i64,.int .i64,.int .i64,.at 800000001,.int .i64,.int .i64,.int .i64,.int .i64,.int .i64,.at 800000002,.int .i64,.bool,.bool])],[(800000000,tW,(.pr .fz .fz)),(800000001,tM,(.pr (.ow .fz) (.pr (.ow (.pr .fz .fz)) (.pr .fz (.ow .fz))))),(800000002,tW,(.pr .fz .fz))]⟩
def yp8:Shape:=⟨[],[],[]⟩
abbrev yvC (v0:Bool) (v1:Int) (v2:dW) (v3:dA) (v4:List dW):(ydK).X:=((((),()),((),()),((),()),(v0,()),(v1,()),()),((v2.1,v2.2,()),(v3.1,v3.2.1.1,v3.2.1.2,(),v3.2.2.2.1,v3.2.2.2.2.1,v3.2.2.2.2.2.1,v3.2.2.2.2.2.2.1,v3.2.2.2.2.2.2.2.1,(),v3.2.2.2.2.2.2.2.2.2.1,v3.2.2.2.2.2.2.2.2.2.2.1,v3.2.2.2.2.2.2.2.2.2.2.2,()),()),(v4,v3.2.2.1,v3.2.2.2.2.2.2.2.2.1,()))
abbrev yUk (v0:dW) (v1:dA) (v2:List dW):(yjY).X:=((((),()),((),()),((),()),((),()),((),()),()),((v0.1,v0.2,()),(v1.1,v1.2.1.1,v1.2.1.2,(),v1.2.2.2.1,v1.2.2.2.2.1,v1.2.2.2.2.2.1,v1.2.2.2.2.2.2.1,v1.2.2.2.2.2.2.2.1,(),v1.2.2.2.2.2.2.2.2.2.1,v1.2.2.2.2.2.2.2.2.2.2.1,v1.2.2.2.2.2.2.2.2.2.2.2,()),()),(v2,v1.2.2.1,v1.2.2.2.2.2.2.2.2.1,()))
abbrev yT6 (v0:Bool) (v1:dW) (v2:dA) (v3:List dW):(yjJ).X:=((((),()),((),()),((),()),(v0,()),()),((v1.1,v1.2,()),(v2.1,v2.2.1.1,v2.2.1.2,(),v2.2.2.2.1,v2.2.2.2.2.1,v2.2.2.2.2.2.1,v2.2.2.2.2.2.2.1,v2.2.2.2.2.2.2.2.1,(),v2.2.2.2.2.2.2.2.2.2.1,v2.2.2.2.2.2.2.2.2.2.2.1,v2.2.2.2.2.2.2.2.2.2.2.2,()),()),(v3,v2.2.2.1,v2.2.2.2.2.2.2.2.2.1,()))
def yv1 (v0:Bool) (v1 v2:Int) (v3:List Int) (v4 v5 v6 v7 v8 v9 v10 v11 v12:Int) (v13 v14:Bool) (v15:List dW) (v16:List dM) (v17:List dW):Option ((ydK).X ⊕ ((yjJ).X ⊕ (yp8).X)) :=
 bif (ltb v1 (v17.length:Int)) then
 bif (!v0) then
 bif (inb v1 v17.length) then
 bif (leb v2 ((nth v17 v1 (0,[])).1)) then
 bif (zjR v15.length ([(v2,v3)]:List dW).length 32) then
 bif (inb v1 v17.length) then
 bif ((nth v17 v1 (0,[])).1 !=v2) then
 bif (inb v1 v17.length) then
 bif (zjR (v15++([(v2,v3)]:List dW)).length ([(nth v17 v1 (0,[]))]:List dW).length 32) then
 some (.inl ((((),()),((),()),((),()),(true,()),((IntKind.i64.wrap (v1+1)),()),()),((v2,v3,()),(v4,v5,v6,(),v7,v8,v9,v10,v11,(),v12,v13,v14,()),()),(((v15++([(v2,v3)]:List dW))++([(nth v17 v1 (0,[]))]:List dW)),v16,v17,())))
 else none
 else none
 else
 some (.inl ((((),()),((),()),((),()),(true,()),((IntKind.i64.wrap (v1+1)),()),()),((v2,v3,()),(v4,v5,v6,(),v7,v8,v9,v10,v11,(),v12,v13,v14,()),()),((v15++([(v2,v3)]:List dW)),v16,v17,())))
 else none
 else none
 else
 bif (inb v1 v17.length) then
 bif ((nth v17 v1 (0,[])).1 !=v2) then
 bif (inb v1 v17.length) then
 bif (zjR v15.length ([(nth v17 v1 (0,[]))]:List dW).length 32) then
 some (.inl ((((),()),((),()),((),()),(v0,()),((IntKind.i64.wrap (v1+1)),()),()),((v2,v3,()),(v4,v5,v6,(),v7,v8,v9,v10,v11,(),v12,v13,v14,()),()),((v15++([(nth v17 v1 (0,[]))]:List dW)),v16,v17,())))
 else none
 else none
 else
 some (.inl ((((),()),((),()),((),()),(v0,()),((IntKind.i64.wrap (v1+1)),()),()),((v2,v3,()),(v4,v5,v6,(),v7,v8,v9,v10,v11,(),v12,v13,v14,()),()),(v15,v16,v17,())))
 else none
 else none
 else
 bif (inb v1 v17.length) then
 bif ((nth v17 v1 (0,[])).1 !=v2) then
 bif (inb v1 v17.length) then
 bif (zjR v15.length ([(nth v17 v1 (0,[]))]:List dW).length 32) then
 some (.inl ((((),()),((),()),((),()),(v0,()),((IntKind.i64.wrap (v1+1)),()),()),((v2,v3,()),(v4,v5,v6,(),v7,v8,v9,v10,v11,(),v12,v13,v14,()),()),((v15++([(nth v17 v1 (0,[]))]:List dW)),v16,v17,())))
 else none
 else none
 else
 some (.inl ((((),()),((),()),((),()),(v0,()),((IntKind.i64.wrap (v1+1)),()),()),((v2,v3,()),(v4,v5,v6,(),v7,v8,v9,v10,v11,(),v12,v13,v14,()),()),(v15,v16,v17,())))
 else none
 else
 some (.inr (.inl ((((),()),((),()),((),()),(v0,()),()),((v2,v3,()),(v4,v5,v6,(),v7,v8,v9,v10,v11,(),v12,v13,v14,()),()),(v15,v16,v17,()))))
def yeo (x:(ydK).X):=yv1 x.1.2.2.2.1.1 x.1.2.2.2.2.1.1 x.2.1.1.1 x.2.1.1.2.1 x.2.1.2.1.1 x.2.1.2.1.2.1 x.2.1.2.1.2.2.1 x.2.1.2.1.2.2.2.2.1 x.2.1.2.1.2.2.2.2.2.1 x.2.1.2.1.2.2.2.2.2.2.1 x.2.1.2.1.2.2.2.2.2.2.2.1 x.2.1.2.1.2.2.2.2.2.2.2.2.1 x.2.1.2.1.2.2.2.2.2.2.2.2.2.2.1 x.2.1.2.1.2.2.2.2.2.2.2.2.2.2.2.1 x.2.1.2.1.2.2.2.2.2.2.2.2.2.2.2.2.1 x.2.2.1 x.2.2.2.1 x.2.2.2.2.1
def yEP (x:(yjY).X):(ydK).X:=((((),()),((),()),((),()),(false,()),(0,()),()),((x.2.1.1.1,x.2.1.1.2.1,()),(x.2.1.2.1.1,x.2.1.2.1.2.1,x.2.1.2.1.2.2.1,(),x.2.1.2.1.2.2.2.2.1,x.2.1.2.1.2.2.2.2.2.1,x.2.1.2.1.2.2.2.2.2.2.1,x.2.1.2.1.2.2.2.2.2.2.2.1,x.2.1.2.1.2.2.2.2.2.2.2.2.1,(),x.2.1.2.1.2.2.2.2.2.2.2.2.2.2.1,x.2.1.2.1.2.2.2.2.2.2.2.2.2.2.2.1,x.2.1.2.1.2.2.2.2.2.2.2.2.2.2.2.2.1,()),()),(x.2.2.1,x.2.2.2.1,x.2.2.2.2.1,()))
def yHg:Code:=(zdD yqP 64 244).getD .skip
theorem yWC:zdD yqP 64 61=some (.block 0 (.loop yHg)):=by kernel_rfl
theorem yZR (x:(ydK).X):zg0 ⟨ywD,67,yIU⟩ 0 yHg 244 ydK yjJ yp8 x=yeo x:=by kernel_rfl
def yE5 (x:(yjY).X):Nat:=18446744073709551616
def ywS (x:(yjY).X):Option ((yjJ).X ⊕ (yp8).X):=zz yeo (yE5 x) (yEP x)
def yFQ:Seg:=⟨yjY,yjJ,yp8,ywS⟩
def yIV:Nat→Option Seg:=fun q=>bif Nat.beq q 61 then some yFQ else yIU q
theorem yX5:FrOk Tryz.prog ⟨ywD,67,yIV⟩ yqP:=(yX4).loop (sg:=yFQ) ydK yEP (by decide) yWC yeo yE5 (by decide) (fun _=>rfl) (fun x r _ h=>h) yZR
abbrev yhP:List Par:= [.pt tA (.pr .fz (.pr (.pr .fz .fz) (.pr (.ow (.pr (.ow .fz) (.pr (.ow (.pr .fz .fz)) (.pr .fz (.ow .fz))))) (.pr .fz (.pr .fz (.pr .fz (.pr .fz (.pr .fz (.pr (.ow (.pr .fz .fz)) (.pr .fz (.pr .fz .fz))))))))))),.kp tW .fz]
abbrev yrm:List OT:= []
def ysT (a0:dA) (a1:dW):Option (ResD yrm×MutD yhP) :=
 zjZ (ywS ((((),()),((),()),((),()),((),()),((),()),()),((a1.1,a1.2,()),(a0.1,a0.2.1.1,a0.2.1.2,(),a0.2.2.2.1,a0.2.2.2.2.1,a0.2.2.2.2.2.1,a0.2.2.2.2.2.2.1,a0.2.2.2.2.2.2.2.1,(),a0.2.2.2.2.2.2.2.2.2.1,a0.2.2.2.2.2.2.2.2.2.2.1,a0.2.2.2.2.2.2.2.2.2.2.2,()),()),(([]:List dW),a0.2.2.1,a0.2.2.2.2.2.2.2.2.1,()))) (fun y0 =>
 bif (!y0.1.2.2.2.1.1) then
 bif (zjR y0.2.2.1.length ([(y0.2.1.1.1,y0.2.1.1.2.1)]:List dW).length 32) then
 some ((),((y0.2.1.2.1.1,(y0.2.1.2.1.2.1,y0.2.1.2.1.2.2.1),y0.2.2.2.1,y0.2.1.2.1.2.2.2.2.1,y0.2.1.2.1.2.2.2.2.2.1,y0.2.1.2.1.2.2.2.2.2.2.1,y0.2.1.2.1.2.2.2.2.2.2.2.1,y0.2.1.2.1.2.2.2.2.2.2.2.2.1,(y0.2.2.1++([(y0.2.1.1.1,y0.2.1.1.2.1)]:List dW)),y0.2.1.2.1.2.2.2.2.2.2.2.2.2.2.1,y0.2.1.2.1.2.2.2.2.2.2.2.2.2.2.2.1,y0.2.1.2.1.2.2.2.2.2.2.2.2.2.2.2.2.1),()))
 else none
 else
 some ((),((y0.2.1.2.1.1,(y0.2.1.2.1.2.1,y0.2.1.2.1.2.2.1),y0.2.2.2.1,y0.2.1.2.1.2.2.2.2.1,y0.2.1.2.1.2.2.2.2.2.1,y0.2.1.2.1.2.2.2.2.2.2.1,y0.2.1.2.1.2.2.2.2.2.2.2.1,y0.2.1.2.1.2.2.2.2.2.2.2.2.1,y0.2.2.1,y0.2.1.2.1.2.2.2.2.2.2.2.2.2.2.1,y0.2.1.2.1.2.2.2.2.2.2.2.2.2.2.2.1,y0.2.1.2.1.2.2.2.2.2.2.2.2.2.2.2.2.1),()))) (fun y0 =>
 none)
theorem y4T (x:InD yhP):zjx ⟨ywD,67,yIV⟩ Tryz.f246.results.toList yqP yhP yrm x=ysT x.1 x.2.1:=by kernel_rfl
theorem y1T:ConOk Tryz.prog 246 ⟨yhP,yrm,fun x=>ysT x.1 x.2.1⟩:=zj2 (yX5) Tryz.func246 (by kernel_rfl) (by kernel_rfl) Tryz.ntmps246.symm (by decide) (fun x r h=>(y4T x).trans h)
def yx1 (a0:dA) (a1:dW):dA:=yFB a0 (yFv a0.2.2.2.2.2.2.2.2.1 a1)
def yFz (a0:dA) (a1:dW):Bool:=decide (a0.2.2.2.2.2.2.2.2.1.length≤1000)
theorem y30 (a0:dA) (a1:dW) (hk:zi2 yhP (a0,a1,())) (hq:yFz a0 a1=true):ysT a0 a1=(fun n=>some ((),(n,()))) (yx1 a0 a1):=by
 have hq:=of_decide_eq_true hq
 have h1:=zj4 (step:=yeo) a0.2.2.2.2.2.2.2.2.1 (0,[]) (fun i s=>yvC s.1 i a1 a0 s.2) (ycx a1) (fun i s=>s.2.length≤i * 2) (fun s=> .inl (yT6 s.1 a1 a0 s.2)) (fun i s hi hs=>by
  constructor
  ·simp only [yeo,yvC,yv1,zj5 (show (i:Int) < a0.2.2.2.2.2.2.2.2.1.length by omega),cond_true,wr (show -9223372036854775808≤(i:Int)+1 by omega) (by omega),Int.natCast_add,Int.natCast_one,Int.toNat_natCast,zkm hi,zks,zkn,ycx,zkb.2 (show (s.2.length+ [a1].length) * 32≤140737488355328 by simp only [List.length_cons,List.length_nil]; omega),
    show ∀ x:dW,zjR s.2.length [x].length 32=true from fun x=>zkb.2 (by simp only [List.length_cons,List.length_nil]; omega),show ∀ x:dW,zjR (s.2++ [a1]).length [x].length 32=true from fun x=>zkb.2 (by simp only [List.length_append,List.length_cons,List.length_nil]; omega)]
   cases s.1<;>cases leb a1.1 (a0.2.2.2.2.2.2.2.2.1.getD i (0,[])).1<;>cases ((a0.2.2.2.2.2.2.2.2.1.getD i (0,[])).1 !=a1.1)<;>simp
  ·unfold ycx
   have: ∀ (b c:Bool) (x:dW),((bif b then s.2++ [a1] else s.2)++(bif c then [x] else [])).length≤(i+1) * 2:=fun b c x=>by
    cases b<;>cases c<;>simp<;>omega
   exact this _ _ _) (fun s hs=>by simp only [yeo,yvC,yv1,zky (Int.le_refl _),cond_false]) (false,[]) (Nat.zero_le _) 18446744073709551616 (by omega)
 have hl:((a0.2.2.2.2.2.2.2.2.1.foldl (ycx a1) (false,[])).2).length≤2000:=by
  have: ∀ (l:List dW) (s:Bool×List dW),((l.foldl (ycx a1) s).2).length≤s.2.length+l.length * 2:=by
   intro l
   induction l with
   | nil=>intro s; simp
   | cons x t ih =>
    intro s
    rw [List.foldl_cons]
    have:=ih (ycx a1 s x)
    have h2:(ycx a1 s x).2.length≤s.2.length+2:=by
     unfold ycx
     cases (!s.1&&leb a1.1 x.1)<;>cases (x.1 !=a1.1)<;>simp
    simp only [List.length_cons]; omega
  have:=this a0.2.2.2.2.2.2.2.2.1 (false,[])
  simp only [List.length_nil]at this
  omega
 unfold ysT yx1 yFv
 refine (congrArg (fun z=>zjZ z _ _) (show ywS (yUk a1 a0 [])=_ from h1)).trans ?_
 generalize a0.2.2.2.2.2.2.2.2.1.foldl (ycx a1) (false,[])=R at hl
 simp only [zki,zks]
 cases hr:R.1
 ·rw [zkb.2 (show (R.2.length+ [a1].length) * 32≤140737488355328 by simp only [List.length_cons,List.length_nil]; omega)]; rfl
 ·rfl
def yx3 (a0:dA) (a1:dW):Option (ResD yrm×MutD yhP):=bif yFz a0 a1 then (fun n=>some ((),(n,()))) (yx1 a0 a1) else none
theorem y4g (a0:dA) (a1:dW) (h:yFz a0 a1=true):yx3 a0 a1=(fun n=>some ((),(n,()))) (yx1 a0 a1):=by unfold yx3; rw [h]; rfl
def yJt:Con:=⟨yhP,yrm,fun x=>yx3 x.1 x.2.1⟩
theorem y4f:ConOk Tryz.prog 246 yJt:=(y1T).mono (fun x r hk h=>zkt h (fun hq=>y30 x.1 x.2.1 hk hq))
end
section
def yNl:Code:=(Tryz.f182.body).getD .skip
def yNH:Env:=zj3 TT [(176,ytl),(177,yti),(178,yvj),(246,yJt)] []
theorem yX6:FrOk Tryz.prog ⟨yNH,40,fun _=>none⟩ yNl:=zj7 yb yc ⟨yFt,yFq,yHL,y4f,trivial⟩
def y0b:Nat→Option Seg:=fun _=>none
abbrev yhQ:List Par:= [.pt tA (.pr .fz (.pr (.pr .fz .fz) (.pr (.ow (.pr (.ow .fz) (.pr (.ow (.pr .fz .fz)) (.pr .fz (.ow .fz))))) (.pr .fz (.pr .fz (.pr .fz (.pr .fz (.pr .fz (.pr (.ow (.pr .fz .fz)) (.pr .fz (.pr .fz .fz))))))))))),.rd tI,.rd tI]
abbrev yrn:List OT:= [⟨false,tI,.fz⟩]
def ysU (a0:dA) (a1 a2:Int):Option (ResD yrn×MutD yhQ) :=
 let r1:=ydX a0.2.1 a1
 bnd (ykE a0 r1) fun r2 =>
 bif (!r2.1.2.1) then
 some ((5,()),(a0,()))
 else
 let r3:=ye6 a0.2.1 a1
 bif (inb r3 r2.1.1.length) then
 bnd (yx3 a0 (r1,(r2.1.1.set (r3).toNat a2))) fun r4 =>
 some ((0,()),(r4.2.1,()))
 else none
theorem y4U (x:InD yhQ):zjx ⟨yNH,40,y0b⟩ Tryz.f182.results.toList yNl yhQ yrn x=ysU x.1 x.2.1 x.2.2.1:=by kernel_rfl
theorem y1U:ConOk Tryz.prog 182 ⟨yhQ,yrn,fun x=>ysU x.1 x.2.1 x.2.2.1⟩:=zj2 (yX6) Tryz.func182 (by kernel_rfl) (by kernel_rfl) Tryz.ntmps182.symm (by decide) (fun x r h=>(y4U x).trans h)
def setOne (a:dA) (b n:Int):Int×dA:=bif (yI a (yB a.2.1 b)).2 then (0,yFB a (yFv a.2.2.2.2.2.2.2.2.1 (yB a.2.1 b,(yI a (yB a.2.1 b)).1.set (yaq a.2.1 b).toNat n))) else (5,a)
def yx2 (a0:dA) (a1 a2:Int):Int×dA:=setOne a0 a1 a2
def ymT (a0:dA) (a1 a2:Int):Bool:=yx a0&&(blkOk a0.2.1 a1&&decide (a0.2.2.2.2.2.2.2.2.1.length≤1000))
theorem y31 (a0:dA) (a1 a2:Int) (hk:zi2 yhQ (a0,a1,a2,())) (hq:ymT a0 a1 a2=true):ysU a0 a1 a2=(fun n=>some ((n.1,()),(n.2,()))) (yx2 a0 a1 a2):=by
 simp only [ymT,Bool.and_eq_true]at hq
 have hs:=yt3 hq.2.1
 obtain ⟨hg,_,hi⟩:=ykn hq.2.1
 unfold ysU yx2 setOne
 simp only [ydX,ye6]
 rw [yFu a0 (yB a0.2.1 a1) hs]
 simp only [zkd,ygc]
 cases hn:(yI a0 (yB a0.2.1 a1)).2
 ·rfl
 ·have hl:=yoT hq.1 hs hn
  have hx:yaq a0.2.1 a1=a1.tmod (a0.2.1.1 - 1):=by unfold yaq; rw [hq.2.1]; rfl
  rw [zjD.2 (show 0≤yaq a0.2.1 a1∧yaq a0.2.1 a1 < (yI a0 (yB a0.2.1 a1)).1.length by omega),y4g _ _ hq.2.2]
  rfl
def ycw (a0:dA) (a1 a2:Int):Option (ResD yrn×MutD yhQ):=bif ymT a0 a1 a2 then (fun n=>some ((n.1,()),(n.2,()))) (yx2 a0 a1 a2) else none
theorem yL8 (a0:dA) (a1 a2:Int) (h:ymT a0 a1 a2=true):ycw a0 a1 a2=(fun n=>some ((n.1,()),(n.2,()))) (yx2 a0 a1 a2):=by unfold ycw; rw [h]; rfl
def yzD:Con:=⟨yhQ,yrn,fun x=>ycw x.1 x.2.1 x.2.2.1⟩
theorem yL6:ConOk Tryz.prog 182 yzD:=(y1U).mono (fun x r hk h=>zkt h (fun hq=>y31 x.1 x.2.1 x.2.2.1 hk hq))
def yty (l:List dW) (s:Int):Int:=bif leb 0 (yL (fun x:dW=> !ltb x.1 s) l) then yL (fun x:dW=> !ltb x.1 s) l else (l.length:Int)
def y6a (l:List dW) (e:dW):List dW:=bif ltb (yty l e.1) (l.length:Int)&&((nth l (yty l e.1) (0,[])).1==e.1) then l.set (yty l e.1).toNat ((nth l (yty l e.1) (0,[])).1,e.2) else l.take (yty l e.1).toNat++ [e]++l.drop (yty l e.1).toNat
theorem y49 (x:dW) (t:List dW) (s:Int):yty (x::t) s=bif ltb x.1 s then yty t s+1 else 0:=by
 unfold yty
 rw [yxQ]
 cases ltb x.1 s
 ·rfl
 ·simp only [Bool.not_true,cond_false,cond_true,List.length_cons]
  cases hl:leb 0 (yL (fun x:dW=> !ltb x.1 s) t)
  ·rfl
  ·have:=zjE.1 hl
   simp only [cond_true]
   rw [zkx (show 0≤yL (fun x:dW=> !ltb x.1 s) t+1 by omega)]; rfl
theorem y6E (l:List dW) (s:Int):0≤yty l s∧yty l s≤(l.length:Int):=by
 induction l with
 | nil=>exact ⟨Int.le_refl 0,Int.le_refl 0⟩
 | cons x t ih =>
  rw [y49,List.length_cons]
  cases ltb x.1 s
  ·exact ⟨Int.le_refl 0,by simp only [cond_false]; omega⟩
  ·simp only [cond_true]; omega
theorem y2p {e:dW}: ∀ {l:List dW},l.Pairwise (fun x y=>x.1 < y.1)→y6a l e=l.filter (fun x=>ltb x.1 e.1)++e::l.filter (fun x=>ltb e.1 x.1)
 | [],_=>rfl
 | x::t,h=>by
  obtain ⟨hx,ht⟩:=List.pairwise_cons.1 h
  have ih:=y2p (e:=e) ht
  unfold y6a at ih ⊢
  rw [y49]
  cases hlt:ltb x.1 e.1
  ·have hle:=zkr hlt
   have h3:t.filter (fun x=>ltb x.1 e.1)= []:=List.filter_eq_nil_iff.2 (fun y hy=>by rw [zky (by have:=hx y hy; omega)]; simp)
   have h4:t.filter (fun x=>ltb e.1 x.1)=t:=List.filter_eq_self.2 (fun y hy=>zj5 (by have:=hx y hy; omega))
   rw [List.filter_cons,List.filter_cons,h3,h4,hlt]
   simp only [cond_false,List.length_cons,zj5 (show (0:Int) < ((t.length+1:Nat):Int) by omega),Bool.true_and]
   show (bif (x.1==e.1) then (x.1,e.2)::t else e::x::t)=_
   cases he:(x.1==e.1)
   ·have:=beq_eq_false_iff_ne.1 he
    rw [zj5 (show e.1 < x.1 by omega)]; rfl
   ·have:=beq_iff_eq.1 he
    rw [zky (show x.1≤e.1 by omega),this]; rfl
  ·have hl:=zjH.1 hlt
   have hp:=(y6E t e.1).1
   rw [List.filter_cons,List.filter_cons,hlt,zky (show x.1≤e.1 by omega)]
   simp only [if_true,cond_true,Bool.false_eq_true,if_false,List.cons_append]
   rw [← ih]
   obtain ⟨k,hk⟩: ∃ k:Nat,yty t e.1=(k:Int):=⟨(yty t e.1).toNat,by omega⟩
   rw [hk,show ((k:Int)+1)=((k+1:Nat):Int) by omega,List.length_cons,show ltb ((k+1:Nat):Int) ((t.length+1:Nat):Int)=ltb (k:Int) (t.length:Int) by
    rw [Bool.eq_iff_iff,zjH,zjH]; omega]
   simp only [Int.toNat_natCast,zkn,List.getD_cons_succ,List.set_cons_succ,List.take_succ_cons,List.drop_succ_cons,List.cons_append]
   cases ltb (k:Int) (t.length:Int)&&((t.getD k (0,[])).1==e.1)<;>rfl
theorem yet {a:dA} (h:yx a=true):yaK a.2.1 a.2.2.2.2.2.2.2.2.1=true:=by
 simp only [yx,Bool.and_eq_true]at h; exact h.2.2.2.1
theorem y5a {a:dA} {e:dW} (h:yx a=true):yFv a.2.2.2.2.2.2.2.2.1 e=y6a a.2.2.2.2.2.2.2.2.1 e:=by
 have h2:=(yrt.1 (yet h)).2
 rw [y2L h2,y2p h2]
def yJ5 (a:dA) (b n:Int):dA×Int:=bif yau a b !=0 then (a,yau a b) else bif isW n then ((setOne a b n).2,(setOne a b n).1) else (a,3)
theorem y6r {a:dA} {s:Int} (hd:yx a=true→leb 0 (yo a.2.2.2.2.2.2.2.2.1 s)=true) (hn:leb 0 (yo a.2.2.2.2.2.2.2.2.1 s)=true):yow a s=((flushE a s).2,(flushE a s).1):=by
 have hlt:ltb (yo a.2.2.2.2.2.2.2.2.1 s) 0=false:=zky (zjE.1 hn)
 unfold yow
 cases ha:yx a
 ·unfold flushE
  rw [hlt]
  have: ∀ D,yp a s D=1:=fun D=>by unfold yp yZ; rw [ha]; rfl
  rw [this]; rfl
 have hin:=yno (p:=fun e:dW=>e.1==s) (d:=((0:Int),([]:List Int))) hn
 have hm:nth a.2.2.2.2.2.2.2.2.1 (yo a.2.2.2.2.2.2.2.2.1 s) (0,[])∈a.2.2.2.2.2.2.2.2.1:=by
  have hi:=zjD.1 hin.1
  unfold nth yo
  rw [zke (show (yL (fun e:dW=>e.1==s) a.2.2.2.2.2.2.2.2.1).toNat < _ by omega)]
  exact List.getElem_mem _
 have he:=(yrt.1 (yet ha)).1 _ hm
 have hs:(nth a.2.2.2.2.2.2.2.2.1 (yo a.2.2.2.2.2.2.2.2.1 s) (0,[])).1=s:=beq_iff_eq.1 hin.2
 have hst:yP a.2.1 s=true:=yca.2 ⟨yR ha,by have:=he.1; rw [hs]at this; exact this⟩
 have hg:=yk.1 (yR ha)
 rcases Bool.eq_false_or_eq_true (ye a) with hd | hd
 ·unfold flushE
  rw [hlt,hd]
  generalize hD:(nth a.2.2.2.2.2.2.2.2.1 (yo a.2.2.2.2.2.2.2.2.1 s) (0,[])).2=D
  have hD1:=he.2.1
  have hD2:=he.2.2
  rw [hD]at hD1 hD2
  have:yp a s D=6:=by
   unfold yp
   simp only [yZ,yjb]
   rw [ha,wr (show -9223372036854775808≤a.2.1.1 - 1 by omega) (by omega),show ((D.length:Int) !=a.2.1.1 - 1)=false from bne_eq_false_iff_eq.2 hD1,hD2,show a.2.2.2.2.2.2.2.2.2.2.1=true from hd]; rfl
  rw [this]; rfl
 ·rw [hd,hst]; rfl
def yHT (s:Int×dA) (e:dW):Int×dA:=bif s.1==0 then ((yow s.2 e.1).2,(yow s.2 e.1).1) else s
theorem y6h (l:List dW) (s:Int×dA) (h:s.1≠0):l.foldl yHT s=s:=by
 induction l with
 | nil=>rfl
 | cons e l ih =>
  rw [List.foldl_cons]
  have:yHT s e=s:=by unfold yHT; rw [beq_eq_false_iff_ne.2 h]; rfl
  rw [this,ih]
theorem y6i: ∀ (l:List dW) (i:Nat) (a:dA),a.2.2.2.2.2.2.2.2.1=l→l.foldl yHT (0,a)=goE yD9 (fun b=>(0,b)) l.length i a
 | [],_,_,_=>rfl
 | e::l,i,a,h=>by
  have hn:leb 0 (yo a.2.2.2.2.2.2.2.2.1 e.1)=true:=by rw [h,yXh]; rfl
  have h0:nth a.2.2.2.2.2.2.2.2.1 0 (0,[])=e:=by rw [h]; rfl
  rw [List.foldl_cons,List.length_cons]
  have ht:yHT (0,a) e=flushE a e.1:=by
   unfold yHT
   show ((yow a e.1).2,(yow a e.1).1)=_
   rw [y6r (fun _=>hn) hn]
  rw [ht]
  unfold goE
  unfold yD9
  rw [h0]
  cases hc:((flushE a e.1).1 !=0)
  ·have hc0:=bne_eq_false_iff_eq.1 hc
   have hd:=yXj (a:=a) (by rw [h]; exact Nat.succ_pos _) (by rw [h0]; exact hc0)
   rw [h0,h]at hd
   have:=y6i l (i+1) (flushE a e.1).2 hd
   rw [show flushE a e.1=(0,(flushE a e.1).2) from Prod.ext hc0 rfl]
   exact this
  ·exact y6h l _ (bne_iff_ne.1 hc)
inductive Turned (a:dA):dA→Prop where
 | same:Turned a a
 | put (b x:Int):blkOk a.2.1 b=true→isW x=true→Turned a (setOne a b x).2
 | flush (s:Int):Turned a (flushE a s).2
 | all:Turned a (allE a).2
 | fail (m:Int):a.2.2.2.1= -1→inb m a.2.2.1.length=true→Turned a (failOne a m)
 | spare:inb a.2.2.2.1 a.2.2.1.length=true→(nth a.2.2.1 a.2.2.2.1 noMem).2.2.1=true→Turned a (markA (spareNew a))
 | step:inb a.2.2.2.1 a.2.2.1.length=true→(nth a.2.2.1 a.2.2.2.1 noMem).2.2.1=false→a.2.2.2.2.1 < a.2.1.2→Turned a (stepOne a).2
 | check:Turned a (checkA a)
 | spoil (m s:Int):inb m a.2.2.1.length=true→0≤s→s < a.2.1.2→Turned a (setMem a m (spoil (nth a.2.2.1 m noMem) (dataAt s)))
theorem y61 {a:dA} (r:dN) (h:ybB a):ybB (yam a r) :=
 yOL (ynn (P:=ybB) (one:=yeS r) (ysV r) (fun _ _ h hi=>yKq h (zkm hi)) _ a (Nat.le_refl _) h)
theorem y6Y {a:dA} (r:dN) (h:ykL a):ykL (yam a r) :=
 yHD (ynn (P:=ykL) (one:=yeS r) (ysV r) (fun _ _ h _=>yKo h _ _ _) _ a (Nat.le_refl _) h)
theorem y6v {a:dA} (s:Int) (d:List Int) (h:ybB a):ybB (yE a s d) :=
 ynn (P:=ybB) (one:=ybD (yh a.2.1 s) a.2.1.1 s d) (ytT _ _ _ _) (fun b i h hi=>by
  unfold ybD
  cases yda b i s
  ·exact h
  ·exact yKq h (zkm hi)) _ a (Nat.le_refl _) h
theorem y6s {a:dA} (s:Int) (d:List Int) (h:ykL a):ykL (yE a s d) :=
 ynn (P:=ykL) (one:=ybD (yh a.2.1 s) a.2.1.1 s d) (ytT _ _ _ _) (fun b i h hi=>by
  unfold ybD
  cases yda b i s
  ·exact h
  ·exact yKo h _ _ _) _ a (Nat.le_refl _) h
theorem y7M {k:Int} {a:dA} (r:dN) (h:Wk k a):Wk k (yam a r):=yDE (yvN _ _) (y61 r h.2.1) (y6Y r h.2.2.1) h
theorem y7n {k:Int} {a:dA} (s:Int) (d:List Int) (h:Wk k a):Wk k (yE a s d):=yDE (yNW _ _ _) (y6v s d h.2.1) (y6s s d h.2.2.1) h
theorem y69 {k:Int} {a:dA} (h:Wk k a) (h1:a.2.2.2.2.2.1 < 60000) (h2:a.2.2.2.2.2.1 - a.2.2.2.2.2.2.1≤3):Wk k (yak a):=by
 obtain ⟨⟨c1,c2,c3,c4,c5,c6,c7,c8,c9,c10,c11⟩,g2,g3,g4,g5⟩:=h
 have e:IntKind.i64.wrap (a.2.2.2.2.2.1+1)=a.2.2.2.2.2.1+1:=wr (by omega) (by omega)
 refine ⟨⟨c1,c2,c3,c4,c5,c6,c7,⟨?_,?_⟩,?_,c10,c11⟩,g2,g3,g4,g5⟩
 ·show a.2.2.2.2.2.2.1≤IntKind.i64.wrap (a.2.2.2.2.2.1+1); omega
 ·show IntKind.i64.wrap (a.2.2.2.2.2.1+1)≤60000; omega
 ·show IntKind.i64.wrap (a.2.2.2.2.2.1+1)≤a.2.2.2.2.2.2.1+4; omega
theorem y4n {a b:dA} (h:yJ a=yJ b):a.2.2.2.2.2.1=b.2.2.2.2.2.1:=congrArg (fun x=>x.2.2.2.2.1) h
theorem y2x {a b:dA} (h:yJ a=yJ b):a.2.2.2.2.2.2.1=b.2.2.2.2.2.2.1:=congrArg (fun x=>x.2.2.2.2.2.1) h
theorem yWG {a:dA} (h:ykL a):yJ (checkA a)=yJ (yhe (yiv a)):=by
 rw [yWH h,yOM]
 have:=ywl a
 unfold yJ at this ⊢
 simp only [Prod.mk.injEq]at this
 obtain ⟨h1,h2,h3,h4,h5,h6,h7,h8,h9⟩:=this
 unfold yhe yiv
 simp only [h1,h2,h3,h4,h5,h7,h8,h9]
theorem y7J {k:Int} {a:dA} (h:Wk k a) (hk:k+1≤60000):Wk (k+1) (yad a)∧(yad a).2.2.2.2.2.1=a.2.2.2.2.2.1∧(yad a).2.2.2.2.2.1 - (yad a).2.2.2.2.2.2.1≤3:=by
 have c:=h.1
 unfold yeP at c
 unfold yad
 rw [wr (by omega) (by omega)]
 cases h4:leb 4 (a.2.2.2.2.2.1 - a.2.2.2.2.2.2.1)
 ·refine ⟨yep h (by omega),rfl,?_⟩
  have: ¬ (4≤a.2.2.2.2.2.1 - a.2.2.2.2.2.2.1):=fun g=>by rw [zkx g]at h4; cases h4
  show a.2.2.2.2.2.1 - a.2.2.2.2.2.2.1≤3; omega
 ·have e1:(checkA a).2.2.2.2.2.1=a.2.2.2.2.2.1:=(y4n (yWG h.2.2.1)).trans rfl
  have e2:(checkA a).2.2.2.2.2.2.1=a.2.2.2.2.2.1:=(y2x (yWG h.2.2.1)).trans rfl
  rw [cond_true]
  exact ⟨y5m h hk,e1,by omega⟩
theorem y7c {k:Int} {a:dA} (s:Int) (d:List Int) (h:Wk k a) (hs:a.2.2.2.2.2.1 < 60000) (hk:k+1≤60000):Wk (k+1) (yac a s d).2∧(yac a s d).1=0:=by
 obtain ⟨h1,h2,h3⟩:=y7J h hk
 have h4:=y7M ((yad a).2.2.2.2.2.1,s,d) h1
 have e1:=y4n (yvN (yad a) ((yad a).2.2.2.2.2.1,s,d))
 have e2:=y2x (yvN (yad a) ((yad a).2.2.2.2.2.1,s,d))
 unfold yac
 generalize yam (yad a) ((yad a).2.2.2.2.2.1,s,d)=R at h4 e1 e2 ⊢
 have h5:=y7n s d (y69 h4 (by omega) (by omega))
 generalize yE (yak R) s d=Q at h5 ⊢
 rw [h1.2.2.1.1,h4.2.2.1.1,h5.2.2.1.1]
 exact ⟨h5,rfl⟩
theorem ySn {k:Int} {a:dA} {l:List dW} (h:Wk k a) (hd:yaK a.2.1 l=true):Wk k (yFB a l):=by
 obtain ⟨⟨c1,c2,c3,c4,c5,c6,c7,c8,c9,c10,c11⟩,g2,g3,g4,g5⟩:=h
 exact ⟨⟨c1,c2,hd,c4,c5,c6,c7,c8,c9,c10,c11⟩,g2,g3,g4,g5⟩
theorem y6P (a:dA) (s:Int) (d:List Int):(yac a s d).2.2.1=a.2.1:=by
 unfold yac
 have h2:=(ynm (yvN (yad a) ((yad a).2.2.2.2.2.1,s,d))).trans (y5G a)
 generalize yam (yad a) ((yad a).2.2.2.2.2.1,s,d)=R at h2 ⊢
 have h3:=(ynm (yNW (yak R) s d)).trans (show (yak R).2.1=a.2.1 from h2)
 generalize yE (yak R) s d=Q at h3 ⊢
 cases ye (yad a)
 ·cases ye R
  ·exact h3
  ·exact h2
 ·exact y5G a
theorem y5n {k:Int} {a:dA} (s:Int) (h:Wk k a) (hk:k+1≤60000):Wk (k+1) (flushE a s).2:=by
 unfold flushE
 cases ltb (yo a.2.2.2.2.2.2.2.2.1 s) 0
 ·generalize hD:(nth a.2.2.2.2.2.2.2.2.1 (yo a.2.2.2.2.2.2.2.2.1 s) (0,[])).2=D
  cases hc:(yp a s D !=0)
  ·have hz:=yNT (bne_eq_false_iff_eq.1 hc)
   obtain ⟨h1,h2⟩:=y7c s D h hz.2.2.2.2.2.2.1 hk
   rw [show ((yac a s D).1==0)=true from beq_iff_eq.2 h2]
   exact ySn h1 (by rw [y6P]; exact y6n _ h.1.2.2.1)
  ·exact yep h (by omega)
 ·exact yep h (by omega)
theorem y5o {k:Int}: ∀ (n i:Nat) (j:Int) (a:dA),Wk j a→j+n≤k→k≤60000→Wk k (goE yD9 (fun b=>((0:Int),b)) n i a).2
 | 0,_,j,a,h,h1,_=>yep h (by omega)
 | n+1,i,j,a,h,h1,h2=>by
  have h3:=y5n (nth a.2.2.2.2.2.2.2.2.1 0 (0,[])).1 h (by omega)
  unfold goE yD9
  cases ((flushE a (nth a.2.2.2.2.2.2.2.2.1 0 (0,[])).1).1 !=0)
  ·exact y5o n (i+1) (j+1) _ h3 (by omega) h2
  ·exact yep h3 (by omega)
theorem y7I {k:Int} {a:dA} (h:Wk k a) (hk:k+8≤60000):Wk (k+8) (allE a).2:=by
 have:=yb6 h.1.2.2.1 h.1.1
 exact y5o _ 0 k a h (by omega) hk
theorem y7N {k:Int} {a:dA} {b n:Int} (h:Wk k a) (hb:blkOk a.2.1 b=true) (hn:isW n=true):Wk k (setOne a b n).2:=by
 unfold setOne
 cases hs:(yI a (yB a.2.1 b)).2
 ·exact h
 ·have hstr:=yt3 hb
  have hl:=yoT (y6K h) hstr hs
  refine ySn h (y6o h.1.2.2.1 ⟨(yca.1 hstr).2,by rw [List.length_set]; exact hl,y5T ?_ hn⟩)
  unfold yI
  cases hk:leb 0 (yo a.2.2.2.2.2.2.2.2.1 (yB a.2.1 b))
  ·rw [h.2.2.2.1]; exact y6l _ _
  ·have:=(yno (d:=((0:Int),([]:List Int))) hk).1
   exact yzG (P:=fun e:dW=>e.2.all isW=true) this (fun e he=>((yrt.1 h.1.2.2.1).1 e he).2.2)
theorem y6N {k:Int} {a b:dA} (h:Wk k a) (ht:Turned a b) (hk:k+8≤60000):Wk (k+8) b:=by
 cases ht with
 | same=>exact yep h (by omega)
 | put b x hb hx=>exact yep (y7N h hb hx) (by omega)
 | flush s=>exact yep (y5n s h (by omega)) (by omega)
 | all=>exact y7I h hk
 | fail m hl hm=>exact yep (y7o h hl hm (by omega)) (by omega)
 | spare hl _=>exact yep (y7a h hl (by omega)) (by omega)
 | step hl _ hb=>exact yep (y7p h hl hb) (by omega)
 | check=>exact yep (y5m h (by omega)) (by omega)
 | spoil m s hm _ _=>exact yep (y7b h hm) (by omega)
end
section
def yIe:Code:=(Tryz.f248.body).getD .skip
def yIZ:Env:=zj3 TT [] []
theorem yQB:FrOk Tryz.prog ⟨yIZ,8,fun _=>none⟩ yIe:=zj7 yb yc trivial
def ySs:Nat→Option Seg:=fun _=>none
abbrev ylT:List Par:= [.rd tW,.rp tI]
abbrev ysh:List OT:= [⟨false,tB,.fz⟩]
def yvH (a0:dW) (a1:Int):Option (ResD ysh×MutD ylT) :=
 some (((a0.1==a1),()),())
theorem y0p (x:InD ylT):zjx ⟨yIZ,8,ySs⟩ Tryz.f248.results.toList yIe ylT ysh x=yvH x.1 x.2.1:=by kernel_rfl
theorem yUZ:ConOk Tryz.prog 248 ⟨ylT,ysh,fun x=>yvH x.1 x.2.1⟩:=zj2 (yQB) Tryz.func248 (by kernel_rfl) (by kernel_rfl) Tryz.ntmps248.symm (by decide) (fun x r h=>(y0p x).trans h)
def ysy (a0:dW) (a1:Int):Bool :=
 (a0.1==a1)
def yEq:Con:=⟨ylT,ysh,fun x=>(fun n=>some ((n,()),())) (ysy x.1 x.2.1)⟩
theorem yYm (a0:dW) (a1:Int):yvH a0 a1=(fun n=>some ((n,()),())) (ysy a0 a1):=zkq (p:=fun (n:Bool)=>((n,()),())) rfl
theorem yZn:ConOk Tryz.prog 248 yEq:=(yUZ).mono (fun x r _ h=>(yYm x.1 x.2.1).trans h)
end
section
def ycq:Code:=(Tryz.f247.body).getD .skip
def yfd:Env:=zj3 TT [(248,yEq)] []
theorem yDs:FrOk Tryz.prog ⟨yfd,19,fun _=>none⟩ ycq:=zj7 yb yc ⟨yZn,trivial⟩
def yqR:Nat→Option Seg:=fun _=>none
def yS:Shape:=⟨[(0,false,[.br tW]),(1,false,[.fx 248 tI]),(7,false,[.int .i64]),(8,false,[.int .i64])],[],[]⟩
def ya2:Shape:=⟨[(0,false,[.br tW]),(1,false,[.fx 248 tI]),(7,false,[.int .i64]),(8,false,[.ci .i64 0])],[],[]⟩
def ya0:Shape:=⟨[],[],[]⟩
def ya4:Shape:=⟨[(4,false,[.int .i64])],[],[]⟩
abbrev ygo (v0:List dW) (v1 v2 v3:Int):(yS).X:=(((v0,()),(v1,()),(v2,()),(v3,()),()),(),())
abbrev yBC (v0:List dW) (v1 v2:Int):(ya2).X:=(((v0,()),(v1,()),(v2,()),((),()),()),(),())
abbrev yBA  :(ya0).X:=((),(),())
abbrev yoA (v0:Int):(ya4).X:=(((v0,()),()),(),())
def ygt (v0:List dW) (v1 v2 v3:Int):Option ((yS).X ⊕ ((ya0).X ⊕ (ya4).X)) :=
 bif (ltb v3 v2) then
 bif (inb v3 v0.length) then
 let r2:=ysy (nth v0 v3 (0,[])) v1
 bif r2 then
 some (.inr (.inr (((v3,()),()),(),())))
 else
 some (.inl (((v0,()),(v1,()),(v2,()),((IntKind.i64.wrap (v3+1)),()),()),(),()))
 else none
 else
 some (.inr (.inl ((),(),())))
def yaa (x:(yS).X):=ygt x.1.1.1 x.1.2.1.1 x.1.2.2.1.1 x.1.2.2.2.1.1
def you (x:(ya2).X):(yS).X:=(((x.1.1.1,()),(x.1.2.1.1,()),(x.1.2.2.1.1,()),(0,()),()),(),())
def yp9:Code:=(zdD ycq 64 52).getD .skip
theorem yDo:zdD ycq 64 13=some (.block 0 (.loop yp9)):=by kernel_rfl
theorem yDz (x:(yS).X):zg0 ⟨yfd,19,yqR⟩ 0 yp9 52 yS ya0 ya4 x=yaa x:=by kernel_rfl
def yox (x:(ya2).X):Nat:=18446744073709551616
def yhb (x:(ya2).X):Option ((ya0).X ⊕ (ya4).X):=zz yaa (yox x) (you x)
def yoR:Seg:=⟨ya2,ya0,ya4,yhb⟩
def yqS:Nat→Option Seg:=fun q=>bif Nat.beq q 13 then some yoR else yqR q
theorem yDt:FrOk Tryz.prog ⟨yfd,19,yqS⟩ ycq:=(yDs).loop (sg:=yoR) yS you (by decide) yDo yaa yox (by decide) (fun _=>rfl) (fun x r _ h=>h) yDz
abbrev yaI:List Par:= [.rd tWs,.fn 248 tI]
abbrev yfg:List OT:= [⟨false,tI,.fz⟩]
def yd0 (a0:List dW) (a1:Int):Option (ResD yfg×MutD yaI) :=
 zjZ (yhb (((a0,()),(a1,()),((a0.length:Int),()),((),()),()),(),())) (fun y2 =>
 some (((-1),()),())) (fun y2 =>
 some ((y2.1.1.1,()),()))
theorem yHU (x:InD yaI):zjx ⟨yfd,19,yqS⟩ Tryz.f247.results.toList ycq yaI yfg x=yd0 x.1 x.2.1:=by kernel_rfl
theorem yFf:ConOk Tryz.prog 247 ⟨yaI,yfg,fun x=>yd0 x.1 x.2.1⟩:=zj2 (yDt) Tryz.func247 (by kernel_rfl) (by kernel_rfl) Tryz.ntmps247.symm (by decide) (fun x r h=>(yHU x).trans h)
def yfj (a0:List dW) (a1:Int):Int:=yo a0 a1
theorem yFW (a0:List dW) (a1:Int) (hk:zi2 yaI (a0,a1,())):yd0 a0 a1=(fun n=>some ((n,()),())) (yfj a0 a1):=by
 have hb:a0.length * 32≤2 ^ 47:=hk.1.1
 have h1:yhb (yBC a0 a1 a0.length)=some (bif leb 0 (yo a0 a1) then .inr (yoA (yo a0 a1)) else .inl yBA) :=
  yHG (step:=yaa) a0 (0,[]) (fun i=>ygo a0 a1 a0.length i) (fun e:dW=>e.1==a1) (fun i=> .inr (yoA i)) _ (fun i hi=>by
   simp only [yaa,ygo,ygt,zj5 (show (i:Int) < a0.length by omega),cond_true,wr (show -9223372036854775808≤(i:Int)+1 by omega) (by omega),Int.natCast_add,Int.natCast_one,Int.toNat_natCast,zkm hi,zkn,ysy]
   cases ((a0.getD i (0,[])).1==a1)<;>rfl) (by simp only [yaa,ygo,ygt,zky (Int.le_refl _),cond_false]) _ (by show _ < 18446744073709551616; omega)
 unfold yd0 yfj
 rw [h1]
 cases h:leb 0 (yo a0 a1)
 ·rw [show yo a0 a1= -1 from yPL h]; rfl
 ·rfl
def yrq:Con:=⟨yaI,yfg,fun x=>(fun n=>some ((n,()),())) (yfj x.1 x.2.1)⟩
theorem yFZ:ConOk Tryz.prog 247 yrq:=(yFf).mono (fun x r hk h=>(yFW x.1 x.2.1 hk).trans h)
end
section
def yM8:Code:=(Tryz.f183.body).getD .skip
def yNu:Env:=zj3 TT [(247,yrq)] []
theorem yXz:FrOk Tryz.prog ⟨yNu,9,fun _=>none⟩ yM8:=zj7 yb yc ⟨yFZ,trivial⟩
def yZY:Nat→Option Seg:=fun _=>none
abbrev ylS:List Par:= [.rd tA,.rd tI]
abbrev yw2:List OT:= [⟨false,tI,.fz⟩]
def yzW (a0:dA) (a1:Int):Option (ResD yw2×MutD ylS) :=
 let r1:=yfj a0.2.2.2.2.2.2.2.2.1 a1
 some ((r1,()),())
theorem y4y (x:InD ylS):zjx ⟨yNu,9,yZY⟩ Tryz.f183.results.toList yM8 ylS yw2 x=yzW x.1 x.2.1:=by kernel_rfl
theorem y1y:ConOk Tryz.prog 183 ⟨ylS,yw2,fun x=>yzW x.1 x.2.1⟩:=zj2 (yXz) Tryz.func183 (by kernel_rfl) (by kernel_rfl) Tryz.ntmps183.symm (by decide) (fun x r h=>(y4y x).trans h)
def ymD (a0:dA) (a1:Int):Int:=yo a0.2.2.2.2.2.2.2.2.1 a1
theorem y3N (a0:dA) (a1:Int) (hk:zi2 ylS (a0,a1,())):yzW a0 a1=(fun n=>some ((n,()),())) (ymD a0 a1):=rfl
def yzx:Con:=⟨ylS,yw2,fun x=>(fun n=>some ((n,()),())) (ymD x.1 x.2.1)⟩
theorem yL0:ConOk Tryz.prog 183 yzx:=(y1y).mono (fun x r hk h=>(y3N x.1 x.2.1 hk).trans h)
end
abbrev yix:List Par:= [.kp tWs (.ow (.pr .fz (.ow .fz))),.rd tI,.kp tWs (.ow (.pr .fz (.ow .fz)))]
abbrev yiA:List OT:= [⟨false,tWs,(.ow (.pr .fz (.ow .fz)))⟩]
end
end Go.Tf
namespace Go.Proofs
noncomputable section
open Go.Tf Go.RowKit Go.Lib
set_option synthInstance.maxHeartbeats 400000
set_option synthInstance.maxSize 10000
set_option linter.unusedVariables false
set_option linter.unusedSimpArgs false
set_option maxRecDepth 100000
theorem y5z {P:Program} (w:World) (t e ty:TypeId) (z:Value) (ht:P.underlying t=some (.slice e)) (hv: ∀ w,(zeroValue e).run P w= .ok z w) (zs:List Value) (b o n c:Nat) (hn:0 < n)
  (hzs:(Builtin.zeroCells z.cells n).toList=zs) (h1: ∀ v∈zs,v.oneCell'=true)
  (hc: ∀ j,j < zs.length→(w.cell? ⟨b,o+j,none⟩).isSome=true) (hf: ∀ j,j < zs.length→w.frozen? ⟨b,o+j,none⟩=false) :
  (Builtin.clear_ #[t] ty #[.slice (some ⟨b,o,none⟩) n c]).run P w= .ok (.tuple #[]) (w.setCells b o zs):=by
 have hst:=run_storeCells_cells (P:=P) b o zs 0 w (by simpa using hc) (by simpa using hf) h1
 simp only [Nat.add_zero]at hst
 obtain ⟨m,rfl⟩: ∃ m,n=m+1:=⟨n - 1,by omega⟩
 simp [Builtin.clear_,run_underlying ht,hv,hzs,hst]
theorem _root_.Go.Tf.isSome_setCells (b:Nat) (vs:List Value) (o:Nat) (w:World) (h: ∀ j,j < vs.length→(w.cell? ⟨b,o+j,none⟩).isSome=true) (k:Nat) (hk:(w.cell? ⟨b,k,none⟩).isSome=true):((w.setCells b o vs).cell? ⟨b,k,none⟩).isSome=true:=by
 by_cases hin:o≤k∧k < o+vs.length
 ·have:=World.cell?_setCells_in b vs o w h (k - o) (by omega)
  rw [show o+(k - o)=k by omega]at this
  rw [this]; rfl
 ·rw [World.cell?_setCells_out b vs o w ⟨b,k,none⟩ (fun _ _=>by show k < o∨o+vs.length≤k; omega)]
  exact hk
def Hdd (p:Prop):Prop:=p
theorem Hdd.out {p:Prop} (h:Hdd p):p:=h
theorem yDB {P:Program} (w:World) (dT sT ty elem:TypeId) (k b o dLen dCap:Nat) (a:Addr) (sLen sCap:Nat) (cs:List Value)
  (hu:P.underlying dT=some (.slice elem)) (hs:(P.info? elem).map (·.size)=some k) (hn:cs.length=Nat.min sLen dLen * k)
  (hsrc: ∀ j v,cs[j]? =some v→w.cell? (a.add j)=some v) (hc: ∀ j,j < cs.length→(w.cell? ⟨b,o+j,none⟩).isSome=true) (hf: ∀ j,j < cs.length→w.frozen? ⟨b,o+j,none⟩=false) (h1: ∀ v∈cs,v.oneCell'=true) :
  (Builtin.copy_ #[dT,sT] ty #[.slice (some ⟨b,o,none⟩) dLen dCap,.slice (some a) sLen sCap]).run P w= .ok (goInt (Nat.min sLen dLen)) (w.setCells b o cs):=by
 have hl:=run_loadCells_list (P:=P) w a cs hsrc
 have hst:=run_storeCells_cells (P:=P) b o cs 0 w (by simpa using hc) (by simpa using hf) h1
 cases hq:P.info? elem with
 | none=>simp [hq]at hs
 | some i =>
  have hi:i.size=k:=by simpa [hq] using hs
  simp [Builtin.copy_,run_underlying hu,Builtin.lenOf,Builtin.firstCells,sizeOf,typeInfo,hq,hi,← hn,hl,hst]
set_option maxHeartbeats 4000000 in
set_option maxRecDepth 100000 in
theorem y5J (w:World) (b off n c:Nat) (va:Option Addr) (vc:Nat) (r:Value) (w':World) (hnc:n≤c)
  (hr:(Builtin.append_ #[27,27] 27 #[.slice (some ⟨b,off,none⟩) n c,.slice va 1 vc]).run Tryz.prog w= .ok r w') :
  Calls Tryz.prog 180 #[.slice (some ⟨b,off,none⟩) n c,.int .i64 n,.slice va 1 vc] w fun e w2=>e= .returned r∧w2=w':=by
 have hz1: ¬ ((1:Int)=0):=by omega
 go_enter Tryz.func180,Tryz.ntmps180
 go_wp2_with (at_builtin; refine Lib.wpList_append_run _ rfl _ _ _ _ rfl _ _ rfl rfl _ _ hr ?_)
 all_goals (go_ret; exact ⟨rfl,rfl⟩)
set_option maxHeartbeats 4000000 in
set_option maxRecDepth 100000 in
theorem y7j (w:World) (va:Option Addr) (vc:Nat) (r:Value) (w':World)
  (hr:(Builtin.append_ #[27,27] 27 #[.slice none 0 0,.slice va 1 vc]).run Tryz.prog w= .ok r w') :
  Calls Tryz.prog 180 #[.slice none 0 0,.int .i64 0,.slice va 1 vc] w fun e w2=>e= .returned r∧w2=w':=by
 have hz1: ¬ ((1:Int)=0):=by omega
 go_enter Tryz.func180,Tryz.ntmps180
 go_wp2_with (at_builtin; refine Lib.wpList_append_run _ rfl _ _ _ _ rfl _ _ rfl rfl _ _ hr ?_)
 all_goals (go_ret; exact ⟨rfl,rfl⟩)
set_option maxHeartbeats 4000000 in
set_option maxRecDepth 100000 in
theorem y6u (w:World) (b off n c i vb voff vc:Nat) (cs vs:List Value) (hi:i < n) (hroom:n+1≤c) (hn63:n < 9223372036854775807) (hvb:vb≠b) (hund:Tryz.prog.underlying 27=some (.slice 129)) (hsz:(Tryz.prog.info? 129).map (·.size)=some 2) (hso: ∀ w,(Go.sizeOf 129).run Tryz.prog w= .ok 2 w)
  (hcl:cs.length=(n - i) * 2) (hvl:vs.length=2)
  (hcs:Hdd (∀ j v,cs[j]? =some v→w.cell? ⟨b,off+i * 2+j,none⟩=some v)) (hsp:Hdd (∀ j,j < (n+1) * 2→(w.cell? ⟨b,off+j,none⟩).isSome=true)) (hfz:Hdd (∀ j,j < (n+1) * 2→w.frozen? ⟨b,off+j,none⟩=false))
  (hvs:Hdd (∀ j v,vs[j]? =some v→w.cell? ⟨vb,voff+j,none⟩=some v)) (h1c:Hdd (∀ v∈cs,v.oneCell'=true)) (h1v:Hdd (∀ v∈vs,v.oneCell'=true))
  (tA tB:TypeId) (kA kB:Nat) (hsa:w.shape? vb=some (tA,kA)) (hsb:w.shape? b=some (tB,kB)) (hkB:kB≠0) (hfa:w.frozen? ⟨vb,voff,none⟩=false) (hfe:w.frozen? ⟨vb,kA,none⟩=false) :
  Calls Tryz.prog 180 #[.slice (some ⟨b,off,none⟩) n c,.int .i64 i,.slice (some ⟨vb,voff,none⟩) 1 vc] w fun e w' =>
   e= .returned (.slice (some ⟨b,off,none⟩) (n+1) c)∧w'=(w.drew.setCells b (off+(i+1) * 2) cs).setCells b (off+i * 2) vs:=by
 have yb:Tryz.prog.follows .mixedOrders=true:=by kernel_rfl
 have hz1: ¬ ((1:Int)=0):=by omega
 have hz2: ¬ ((i:Int)=(n:Int)):=by omega
 have hov: ∀ lb cb,(callFunc 244 #[.slice (some ⟨vb,voff,none⟩) 1 vc,.slice (some ⟨b,off+(i+1) * 2,none⟩) lb cb]).run Tryz.prog w= .ok (.value (.bool false)) w:=fun lb cb=>by
  rw [run_callFunc_extern Tryz.func244 (by kernel_rfl) (by kernel_rfl) (by kernel_rfl) (e:=Extern.SlicesOverlaps.overlaps #[27,27] #[4]) (by kernel_rfl),
   Lib.run_overlaps_apart w 27 4 129 hund 2 hso ⟨vb,voff,none⟩ ⟨b,off+(i+1) * 2,none⟩ 1 vc lb cb hvb tA tB kA kB hsa hsb hkB hfa hfe]
  rfl
 have hw1:IntKind.i64.wrap ((i:Int)+1)=(i:Int)+1:=by rw [IntKind.wrap_i64]; omega
 have hb1:(0:Int)≤(i:Int)+1:=by omega
 have hin:i≤n:=by omega
 have htn:((i:Int)+1).toNat=i+1:=by omega
 have hb2: ¬ (c=i+1):=by omega
 have hb3:(i:Int)≤(n:Int)+1:=by omega
 have hb4: ¬ (c=i):=by omega
 have hcp1: ∀ ty dc sc,(Builtin.copy_ #[27,27] ty #[.slice (some ⟨b,off+(i+1) * 2,none⟩) (n - i) dc,.slice (some ⟨b,off+i * 2,none⟩) (n+1 - i) sc]).run Tryz.prog w.drew= .ok (goInt (Nat.min (n+1 - i) (n - i))) (w.drew.setCells b (off+(i+1) * 2) cs):=fun ty dc sc =>
  yDB w.drew _ _ ty 129 2 b (off+(i+1) * 2) (n - i) dc ⟨b,off+i * 2,none⟩ (n+1 - i) sc cs hund hsz (by rw [hcl]; simp only [Nat.min_def]; split<;>omega)
   (fun j v hj=>by rw [zay]; exact hcs.out j v hj)
   (fun j hj=>by rw [Nat.add_assoc]; exact hsp.out _ (by omega)) (fun j hj=>by rw [Nat.add_assoc]; exact hfz.out _ (by omega)) h1c.out
 obtain ⟨W1,hW1⟩: ∃ W1,W1=w.drew.setCells b (off+(i+1) * 2) cs:=⟨_,rfl⟩
 have hsp1: ∀ k,k < (n+1) * 2→(W1.cell? ⟨b,off+k,none⟩).isSome=true:=fun k hk=>by
  rw [hW1]
  exact Tf.isSome_setCells b _ _ _ (fun j hj=>by rw [Nat.add_assoc]; exact hsp.out _ (by omega)) _ (hsp.out k hk)
 have hcp2: ∀ (W:World),(∀ x,W.cell? x=W1.cell? x)→(∀ x,W.frozen? x=W1.frozen? x)→ ∀ ty dc,(Builtin.copy_ #[27,27] ty #[.slice (some ⟨b,off+i * 2,none⟩) (n+1 - i) dc,.slice (some ⟨vb,voff,none⟩) 1 vc]).run Tryz.prog W= .ok (goInt (Nat.min 1 (n+1 - i))) (W.setCells b (off+i * 2) vs):=fun W hWc hWf ty dc =>
  yDB W _ _ ty 129 2 b (off+i * 2) (n+1 - i) dc ⟨vb,voff,none⟩ 1 vc vs hund hsz (by rw [hvl]; simp only [Nat.min_def]; split<;>omega)
   (fun j v hj=>by
    rw [zay,hWc,hW1,World.cell?_setCells_out b _ _ _ _ (fun h _=>absurd h hvb)]
    exact hvs.out j v hj)
   (fun j hj=>by rw [hWc,Nat.add_assoc]; exact hsp1 _ (by omega)) (fun j hj=>by rw [hWf,hW1,World.frozen?_setCells,Nat.add_assoc]; exact hfz.out _ (by omega)) h1v.out
 rw [← hW1]at hcp1
 clear hsp1
 go_enter Tryz.func180,Tryz.ntmps180
 go_wp2_with (simp only [hov])
 go_region_law_o (refine step_copy_runI rfl _ _ 27 27 rfl _ _ (by simp [Act.eval,Act.put]) (by simp [Act.eval,Act.put]) (hcp1 _ _ _) ?_)
 go_wp2_with (at_builtin; refine wpList_copy_runI _ rfl _ _ 27 27 rfl _ _ rfl rfl (hcp2 _ (fun _=>rfl) (fun _=>rfl) _ _) ?_)
 go_ret
 exact ⟨rfl,rfl⟩
set_option maxHeartbeats 4000000 in
set_option maxRecDepth 100000 in
theorem y60 (w:World) (b off n c i vb voff vc:Nat) (pre cs vs:List Value) (hi:i < n) (hnc:n≤c) (hroom:c < n+1) (hbig:(n+1) * 32≤140737488355328) (hund:Tryz.prog.underlying 27=some (.slice 129)) (hun3:Tryz.prog.underlying 3=some (.int .i64)) (i0:TypeInfo) (hi0:Tryz.prog.info? 129=some i0) (z:Value) (hz0:i0.zero=some z) (hsz:i0.size=2) (hbz:i0.bytes=32) (hzc:z.cells.size=2)
  (hpl:pre.length=i * 2) (hcl:cs.length=(n - i) * 2) (hvl:vs.length=2) (hbw:b < w.heap.size) (hvw:vb < w.heap.size)
  (hpre:Hdd (∀ j v,pre[j]? =some v→w.cell? ⟨b,off+j,none⟩=some v)) (hcs:Hdd (∀ j v,cs[j]? =some v→w.cell? ⟨b,off+i * 2+j,none⟩=some v))
  (hvs:Hdd (∀ j v,vs[j]? =some v→w.cell? ⟨vb,voff+j,none⟩=some v)) (h1c:Hdd (∀ v∈cs,v.oneCell'=true)) (h1v:Hdd (∀ v∈vs,v.oneCell'=true)) :
  Calls Tryz.prog 180 #[.slice (some ⟨b,off,none⟩) n c,.int .i64 i,.slice (some ⟨vb,voff,none⟩) 1 vc] w fun e w' =>
   e= .returned (.slice (some ⟨w.heap.size,0,none⟩) (n+1) (grownCap w (n+1) c 129)) ∧
   w'=(((w.alloc (.cells (pre.toArray++Builtin.zeroCells z.cells (n+1 - i)++Builtin.zeroCells z.cells (grownCap w (n+1) c 129 - (n+1))) 129)).drew.setCells w.heap.size (i * 2) vs).drew).setCells w.heap.size ((i+1) * 2) cs:=by
 have yb:Tryz.prog.follows .mixedOrders=true:=by kernel_rfl
 have hz1: ¬ ((1:Int)=0):=by omega
 have hz2: ¬ ((i:Int)=(n:Int)):=by omega
 have hz3:(c:Int) < (n:Int)+1:=by omega
 have hszm:(Tryz.prog.info? 129).map (·.size)=some 2:=by rw [hi0]; simp [hsz]
 have hkk:(n:Int)+1 - (i:Int)=((n+1 - i:Nat):Int):=by omega
 have hik:i+(n+1 - i)=n+1:=by omega
 have hold:(Builtin.firstCells i0.size i (.slice (some ⟨b,off,none⟩) i c)).run Tryz.prog w.drew= .ok pre.toArray w.drew:=by
  have hl:=run_loadCells_list (P:=Tryz.prog) w.drew ⟨b,off,none⟩ pre (fun j v hj=>by rw [zay]; exact hpre.out j v hj)
  rw [hpl]at hl
  simp [Builtin.firstCells,hsz,hl]
 have hrz: ∀ ty,(Builtin.append_ #[27,3] ty #[.slice (some ⟨b,off,none⟩) i c,.int .i64 ((n:Int)+1 - (i:Int))]).run Tryz.prog w =
   .ok (.slice (some ⟨w.heap.size,0,none⟩) (n+1) (grownCap w (n+1) c 129)) (w.drew.alloc (.cells (pre.toArray++Builtin.zeroCells z.cells (n+1 - i)++Builtin.zeroCells z.cells (grownCap w (n+1) c 129 - (n+1))) 129)):=fun ty=>by
  have h:=Lib.run_append_grow_zeros w 27 3 ty 129 i0 z .i64 .i64 hund hun3 hi0 hz0 (some ⟨b,off,none⟩) i c pre hold (n+1 - i) (by omega) (by omega) (by omega) (by omega) (by rw [hbz]; omega) (by rw [hbz,hik]; exact growslice_fits hroom hbig)
  rw [hik]at h
  rw [hkk]
  exact h
 obtain ⟨G,hG⟩: ∃ G,G=grownCap w (n+1) c 129:=⟨_,rfl⟩
 obtain ⟨ROW,hROW⟩: ∃ ROW:Array Value,ROW=pre.toArray++Builtin.zeroCells z.cells (n+1 - i)++Builtin.zeroCells z.cells (G - (n+1)):=⟨_,rfl⟩
 rw [← hG]at hrz ⊢
 rw [← hROW]at hrz ⊢
 have hRl:(n+1) * 2≤ROW.size:=by
  rw [hROW,Array.size_append,Array.size_append,size_zeroCells,size_zeroCells,hzc,List.size_toArray,hpl]
  omega
 obtain ⟨W1,hW1⟩: ∃ W1,W1=w.drew.alloc (.cells ROW 129):=⟨_,rfl⟩
 rw [← hW1]at hrz
 have hN: ∀ j,j < (n+1) * 2→(W1.cell? ⟨w.heap.size,j,none⟩).isSome=true:=fun j hj=>by
  rw [hW1,World.cell?_alloc_at (w:=w.drew) ROW _ w.heap.size j rfl,Array.getElem?_eq_getElem (by omega)]; rfl
 have hNf: ∀ j,W1.frozen? ⟨w.heap.size,j,none⟩=false:=fun j=>by rw [hW1]; exact World.frozen?_alloc_at (w:=w.drew) ROW _ w.heap.size j rfl
 have hOb: ∀ j v,w.cell? ⟨b,j,none⟩=some v→W1.cell? ⟨b,j,none⟩=some v:=fun j v h=>by rw [hW1,World.cell?_alloc_past (w:=w.drew) _ b j hbw]; exact h
 have hOv: ∀ j v,w.cell? ⟨vb,j,none⟩=some v→W1.cell? ⟨vb,j,none⟩=some v:=fun j v h=>by rw [hW1,World.cell?_alloc_past (w:=w.drew) _ vb j hvw]; exact h
 have hcpA: ∀ (W:World),(∀ x,W.cell? x=W1.cell? x)→(∀ x,W.frozen? x=W1.frozen? x)→ ∀ ty dc,(Builtin.copy_ #[27,27] ty #[.slice (some ⟨w.heap.size,i * 2,none⟩) (n+1 - i) dc,.slice (some ⟨vb,voff,none⟩) 1 vc]).run Tryz.prog W= .ok (goInt (Nat.min 1 (n+1 - i))) (W.setCells w.heap.size (i * 2) vs):=fun W hWc hWf ty dc =>
  yDB W _ _ ty 129 2 w.heap.size (i * 2) (n+1 - i) dc ⟨vb,voff,none⟩ 1 vc vs hund hszm (by rw [hvl]; simp only [Nat.min_def]; split<;>omega)
   (fun j v hj=>by rw [zay,hWc]; exact hOv _ v (hvs.out j v hj))
   (fun j hj=>by rw [hWc]; exact hN _ (by omega)) (fun j hj=>by rw [hWf]; exact hNf _) h1v.out
 have hGn:n+1≤G:=by rw [hG]; exact grownCap_ge w _ _ _
 have hG63:G≤9223372036854775807:=by
  have:=grownCap_le_maxLen w (n+1) c 129 (by unfold maxLen; omega)
  rw [← hG]at this
  unfold maxLen at this
  omega
 have hGi: ¬ (G=i):=by omega
 have hGim: ¬ (G=i+1):=by omega
 have hci: ¬ (c=i):=by omega
 have hbN:b≠w.heap.size:=by omega
 have hcpB: ∀ (W:World),(∀ x,W.cell? x=(W1.setCells w.heap.size (i * 2) vs).cell? x)→(∀ x,W.frozen? x=(W1.setCells w.heap.size (i * 2) vs).frozen? x)→ ∀ ty dc sc,(Builtin.copy_ #[27,27] ty #[.slice (some ⟨w.heap.size,(i+1) * 2,none⟩) (n - i) dc,.slice (some ⟨b,off+i * 2,none⟩) (n - i) sc]).run Tryz.prog W= .ok (goInt (Nat.min (n - i) (n - i))) (W.setCells w.heap.size ((i+1) * 2) cs):=fun W hWc hWf ty dc sc =>
  yDB W _ _ ty 129 2 w.heap.size ((i+1) * 2) (n - i) dc ⟨b,off+i * 2,none⟩ (n - i) sc cs hund hszm (by rw [hcl]; simp only [Nat.min_def]; split<;>omega)
   (fun j v hj=>by
    rw [zay,hWc,World.cell?_setCells_out _ _ _ _ _ (fun h _=>absurd h hbN)]
    exact hOb _ v (hcs.out j v hj))
   (fun j hj=>by rw [hWc]; exact Tf.isSome_setCells _ _ _ _ (fun t ht=>hN _ (by omega)) _ (hN _ (by omega)))
   (fun j hj=>by rw [hWf,World.frozen?_setCells]; exact hNf _) h1c.out
 subst hW1
 have hE1: ∀ x,((w.alloc (.cells ROW 129)).drew).cell? x=(w.drew.alloc (.cells ROW 129)).cell? x:=fun x=>rfl
 have hE2: ∀ x,((w.alloc (.cells ROW 129)).drew).frozen? x=(w.drew.alloc (.cells ROW 129)).frozen? x:=fun x=>rfl
 have hF1: ∀ x,(((w.alloc (.cells ROW 129)).drew.setCells w.heap.size (i * 2) vs).drew).cell? x=((w.drew.alloc (.cells ROW 129)).setCells w.heap.size (i * 2) vs).cell? x:=fun x=>rfl
 have hF2: ∀ x,(((w.alloc (.cells ROW 129)).drew.setCells w.heap.size (i * 2) vs).drew).frozen? x=((w.drew.alloc (.cells ROW 129)).setCells w.heap.size (i * 2) vs).frozen? x:=fun x=>rfl
 have hw1:IntKind.i64.wrap ((i:Int)+1)=(i:Int)+1:=by rw [IntKind.wrap_i64]; omega
 have hb1:(0:Int)≤(i:Int)+1:=by omega
 have hin:i≤n:=by omega
 have htn:((i:Int)+1).toNat=i+1:=by omega
 have hb3:(i:Int)≤(n:Int):=by omega
 clear hkk hik hold hROW hG hRl
 go_enter Tryz.func180,Tryz.ntmps180
 go_wp2_with (first
  | (at_builtin; refine Lib.wpList_append_run _ rfl _ _ _ _ rfl _ _ rfl rfl _ _ (hrz _) ?_)
  | (at_builtin; refine wpList_copy_runI _ rfl _ _ 27 27 rfl _ _ rfl rfl (hcpA _ hE1 hE2 _ _) ?_)
  | (at_builtin; refine wpList_copy_runI _ rfl _ _ 27 27 rfl _ _ rfl rfl (hcpB _ (fun _=>rfl) (fun _=>rfl) _ _ _) ?_))
 go_region_law_o (refine step_copy_runI rfl _ _ 27 27 rfl (.slice (some ⟨w.heap.size,(i+1) * 2,none⟩) (n - i) (G - (i+1))) (.slice (some ⟨b,off+i * 2,none⟩) (n - i) (c - i)) (by simp [Act.eval,Act.put]) (by simp [Act.eval,Act.put]) (hcpB _ hF1 hF2 3 (G - (i+1)) (c - i)) ?_)
 go_wp2
 go_ret
 exact ⟨rfl,rfl⟩
end
end Go.Proofs
namespace Go.Tf
noncomputable section
open Go.Proofs
set_option synthInstance.maxHeartbeats 400000
set_option synthInstance.maxSize 10000
set_option linter.unusedVariables false
set_option linter.unusedSimpArgs false
set_option maxRecDepth 100000
abbrev aW:Ann:= .pr .fz (.ow .fz)
theorem yOJ {α:Type} {l:List α} {i j:Nat} (h:i=j):l[i]? =l[j]? :=h ▸ rfl
theorem yAB {b o n:Nat} {vs:List Value} {w:World} (hc:zd (hp w) b o n=some vs): ∀ j v,vs[j]? =some v→w.cell? ⟨b,o+j,none⟩=some v:=fun j v hj=>by
 have hl:=zal hc
 have hj2:=(List.getElem?_eq_some_iff.1 hj).1
 rw [zbD,← zX hc j (by omega)]; exact hj
theorem y5F {w:World} {b:Nat} {c:Array Value} {T:TypeId} (hb:hp w b=some (.cells c T (0,0))) {j:Nat} (hj:j < c.size):(w.cell? ⟨b,j,none⟩).isSome=true∧w.frozen? ⟨b,j,none⟩=false:=by
 refine ⟨by rw [zbD]; unfold zF; rw [hb]; simp [hj],?_⟩
 unfold World.frozen?
 have:w.heap[b]? =some (.cells c T (0,0)):=hb
 simp [this]
theorem y7v {w:World} {b:Nat} {c:Array Value} {T:TypeId} (hb:hp w b=some (.cells c T (0,0))) (j:Nat):w.frozen? ⟨b,j,none⟩=false:=by
 unfold World.frozen?
 have:w.heap[b]? =some (.cells c T (0,0)):=hb
 simp [this]
theorem y5e {w:World} {b:Nat} {c:Array Value} {T:TypeId} (hb:hp w b=some (.cells c T (0,0))):w.shape? b=some (T,c.size):=by
 unfold World.shape?
 have:w.heap[b]? =some (.cells c T (0,0)):=hb
 simp [this]
theorem y5B {w:World} {b o:Nat} {c:Array Value} {T:TypeId} {v:Value} (hb:hp w b=some (.cells c T (0,0))) (ho:o < c.size):w.setCell ⟨b,o,none⟩ v=World.setBlk w b (c.setIfInBounds o v) T:=by
 have hb':w.heap[b]? =some (.cells c T (0,0)):=hb
 unfold World.setCell World.setBlk
 congr 1
 apply Array.ext_getElem?
 intro j
 rw [Array.getElem?_modify,Array.getElem?_setIfInBounds]
 by_cases hj:b=j
 ·subst hj
  have hlt2:b < w.heap.size:=(Array.getElem?_eq_some_iff.1 hb').1
  have hg:w.heap[b]=Obj.cells c T (0,0):=by rw [Array.getElem?_eq_getElem hlt2]at hb'; simpa using hb'
  simp [hlt2,hg]
 ·simp [hj]
theorem yiu {b:Nat} {T:TypeId}: ∀ (vs:List Value) (o:Nat) (w:World) (c:Array Value),hp w b=some (.cells c T (0,0))→o+vs.length≤c.size→w.setCells b o vs=World.setBlk w b (ze c o vs) T
 | [],o,w,c,hb,_=>by
  have hb':w.heap[b]? =some (.cells c T (0,0)):=hb
  show w=_
  unfold World.setBlk ze
  have:w.heap.setIfInBounds b (.cells c T (0,0))=w.heap:=by
   apply Array.ext_getElem?
   intro j
   rw [Array.getElem?_setIfInBounds]
   split
   ·subst_vars
    split
    ·exact hb'.symm
    ·rename_i hn; rw [Array.getElem?_eq_none (by omega)]
   ·rfl
  rw [this]
 | v::vs,o,w,c,hb,hl=>by
  simp only [List.length_cons]at hl
  have hsz:b < w.heap.size:=(Array.getElem?_eq_some_iff.1 (show w.heap[b]? =_ from hb)).1
  rw [World.setCells,y5B hb (by omega),yiu vs (o+1) _ (c.setIfInBounds o v) (za3 hsz) (by simp; omega)]
  show World.setBlk (World.setBlk w b (c.setIfInBounds o v) T) b (ze (c.setIfInBounds o v) (o+1) vs) T=World.setBlk w b (ze (c.setIfInBounds o v) (o+1) vs) T
  unfold World.setBlk
  simp
theorem yJE {fp0 fpV:List (List Nat)} {i:Nat}:List.Perm ((fp0.take i++fpV)++fp0.drop i).flatten (fp0.flatten++fpV.flatten):=by
 have h:fp0.flatten=(fp0.take i).flatten++(fp0.drop i).flatten:=by rw [← List.flatten_append,List.take_append_drop]
 rw [List.flatten_append,List.flatten_append,h,List.append_assoc,List.append_assoc]
 exact List.Perm.append_left _ List.perm_append_comm
theorem yJF {h h':Heap} {Z:Nat→Prop} {l:List dW} {x:dW} {vs0 vsV:List Value} {f0 fV:List (List Nat)} {i B o cap:Nat} {c:Array Value} {T:TypeId}
  (e0:Elems h Z tW aW l vs0 f0) (eV:Elems h Z tW aW [x] vsV fV) (hi:i≤l.length) (hk: ∀ b,Z b→h' b=h b) (hf: ∀ b∈f0.flatten++fV.flatten,h' b=h b) (hB:h' B=some (.cells c T (0,0))) (hcap:o+cap * 2≤c.size) (hl:l.length+1≤cap) (hbnd:(l.length+1) * 32≤2 ^ 47)
  (hc:zd h' B o ((l.length+1) * 2)=some (vs0.take (i * 2)++vsV++vs0.drop (i * 2))):Own h' Z (.sl tW) (.ow aW) (l.take i++ [x]++l.drop i) [.slice (some ⟨B,o,none⟩) (l.length+1) cap] (B::((f0.take i++fV)++f0.drop i).flatten):=by
 have s1:=Elems.sub e0 0 i (by omega)
 have s2:=Elems.sub e0 i (l.length - i) (by omega)
 have hlen:=e0.len
 have hfl:=e0.fl
 have hsz:tW.size=2:=rfl
 rw [hsz]at hlen s1 s2
 rw [Nat.zero_mul,List.drop_zero,List.drop_zero,List.drop_zero]at s1
 rw [List.take_of_length_le (l:=l.drop i) (by rw [List.length_drop]; omega),List.take_of_length_le (l:=vs0.drop (i * 2)) (by rw [List.length_drop]; omega),List.take_of_length_le (l:=f0.drop i) (by rw [List.length_drop]; omega)] at s2
 have e:=(s1.append eV).append s2
 have e':=e.keep hk (fun _ h=>h) (fun b hb=>hf b ((yJE (fp0:=f0) (fpV:=fV) (i:=i)).mem_iff.1 hb))
 have hL:(l.take i++ [x]++l.drop i).length=l.length+1:=by simp; omega
 have:=e'.own (b:=B) (o:=o) (cap:=cap) hB (by rw [hL]; exact hc) (by exact hcap) (by rw [hL]; exact hl) (by rw [hL]; exact hbnd)
 rw [hL]at this
 exact this
theorem ySj {h:Heap} {B o n i:Nat} {X:Array Value} {T:TypeId} {vs0 vsV:List Value} (hB:h B=some (.cells X T (0,0))) (hl:vs0.length=n * 2) (hv:vsV.length=2) (hi:i≤n)
  (h1: ∀ j,j < i * 2→X[o+j]? =vs0[j]?) (h2: ∀ j,j < 2→X[o+i * 2+j]? =vsV[j]?) (h3: ∀ j,j < (n - i) * 2→X[o+(i+1) * 2+j]? =vs0[i * 2+j]?):zd h B o ((n+1) * 2)=some (vs0.take (i * 2)++vsV++vs0.drop (i * 2)):=by
 have hL:(vs0.take (i * 2)++vsV++vs0.drop (i * 2)).length=(n+1) * 2:=by simp [hl,hv]; omega
 have:=zab (h:=h) (b:=B) (vs0.take (i * 2)++vsV++vs0.drop (i * 2)) o (fun j hj=>by
  rw [hL]at hj
  unfold zF
  rw [hB]
  show X[o+j]? =_
  by_cases g1:j < i * 2
  ·rw [h1 j g1,List.append_assoc,List.getElem?_append_left (by rw [List.length_take]; omega),List.getElem?_take,if_pos g1]
  ·by_cases g2:j < i * 2+2
   ·rw [show o+j=o+i * 2+(j - i * 2) by omega,h2 _ (by omega),List.append_assoc,List.getElem?_append_right (by rw [List.length_take]; omega),List.getElem?_append_left (by rw [List.length_take]; omega),List.length_take]
    exact yOJ (by omega)
   ·rw [show o+j=o+(i+1) * 2+(j - (i+1) * 2) by omega,h3 _ (by omega),List.getElem?_append_right (by rw [List.length_append,List.length_take]; omega),List.length_append,List.length_take,hv,List.getElem?_drop]
    exact yOJ (by omega))
 rw [hL]at this; exact this
def yaZ (l:List dW) (i:Int) (v:List dW):Bool:=leb 0 i&&(leb i (l.length:Int)&&(v.length==1&&decide ((l.length+1) * 32≤2 ^ 47)))
def yiL (l:List dW) (i:Int) (v:List dW):List dW:=l.take i.toNat++v++l.drop i.toNat
def yPI:Con:=⟨yix,yiA,fun x=>bif yaZ x.1 x.2.1 x.2.2.1 then some ((yiL x.1 x.2.1 x.2.2.1,()),()) else none⟩
theorem yE7 {a0 a1 a2:Value} {w:World} {Z:Nat→Prop} {fs:List (List Nat)} {l':List dW} {v:Value} {B:Nat} {w2:World} {g gl:List Nat} (hio:ioOf w2=ioOf w) (hsz:w.heap.size≤w2.heap.size)
  (hB:(w.heap.size≤B∧B < w2.heap.size)∨B∈fs.flatten) (hZ: ¬ Z B) (hk: ∀ b,b < w.heap.size→b∉fs.flatten→hp w2 b=hp w b) (hp0:g.Perm gl) (hgn:gl.Nodup) (hgB: ∀ x∈gl,x≠B) (hgm: ∀ x∈gl,x∈fs.flatten∧ ¬ Z x) (ho:Own (hp w2) Z (.sl tW) (.ow aW) l' [v] (B::g)):DoneOk yPI [a0,a1,a2] fs Z w ((l',()),()) (.returned v) w2:=by
 refine ⟨[v],Z,[B::g],[[],[],[]],rfl,hio,hsz,hk,fun _ h=>h,fun _ h=> .inl h,⟨⟨[v],rfl,ho⟩,trivial⟩,⟨rfl,rfl,rfl,trivial⟩,?_,fun b hb=> ?_⟩
 ·simp only [List.flatten_cons,List.flatten_nil,List.append_nil,List.nodup_cons]
  exact ⟨fun h=>hgB B (hp0.mem_iff.1 h) rfl,hp0.nodup_iff.2 hgn⟩
 ·simp only [List.flatten_cons,List.flatten_nil,List.append_nil,List.mem_cons]at hb
  rcases hb with rfl | hb
  ·exact ⟨hB,hZ⟩
  ·have:=hgm b (hp0.mem_iff.1 hb)
   exact ⟨.inr this.1,this.2⟩
theorem y7k (w:World) (Z R:Nat→Prop) (l:List dW) (i:Nat) (x:dW) (a0 a2:Value) (f0 f2:List Nat) (o0:Own (hp w) Z (.sl tW) (.ow aW) l [a0] f0) (o2:Own (hp w) Z (.sl tW) (.ow aW) [x] [a2] f2) (hi:i≤l.length) (hbnd:(l.length+1) * 32≤2 ^ 47)
  (hlow: ∀ b,Z b∨R b→b < w.heap.size) (hnd:(f0++f2).Nodup) (hfr: ∀ b∈f0++f2,b < w.heap.size∧ ¬ Z b∧ ¬ R b):Calls Tryz.prog 180 #[a0,.int .i64 (i:Int),a2] w (DoneOk yPI [a0,.int .i64 (i:Int),a2] [f0,[],f2] Z w ((l.take i++ [x]++l.drop i,()),())):=by
 have hund:Tryz.prog.underlying 27=some (.slice 129):=by kernel_rfl
 have hinf:(Tryz.prog.info? 129).map (fun f=>(f.zero,f.size,f.bytes))=some (some (zeroVal tW),tW.size,tW.bytes):=by kernel_rfl
 obtain ⟨i0,hi0,hz0,hsz,hbz⟩: ∃ i0,Tryz.prog.info? 129=some i0∧i0.zero=some (zeroVal tW)∧i0.size=2∧i0.bytes=32:=by
  cases hq:Tryz.prog.info? 129 with
  | none=>rw [hq]at hinf; cases hinf
  | some f =>
   rw [hq]at hinf
   simp only [Option.map_some,Option.some.injEq,Prod.mk.injEq]at hinf
   exact ⟨f,rfl,hinf.1,hinf.2.1,hinf.2.2⟩
 have hzc:(zeroVal tW).cells.size=2:=rfl
 have hnd1:=hnd
 obtain ⟨hndl,hndr,hdis⟩:=List.nodup_append.1 hnd1
 have hZ0: ∀ b∈f0,¬ Z b:=fun b hb=>(hfr b (List.mem_append.2 (.inl hb))).2.1
 have hfl:([f0,[],f2]:List (List Nat)).flatten=f0++f2:=by simp
 obtain ⟨hd,cap,hv0,_,hlc,hc0⟩:=Own.elems o0
 obtain ⟨hdv,capv,hvv,_,hlcv,hcv⟩:=Own.elems o2
 rcases hcv with ⟨h9,_⟩ | ⟨bv,ov,cv,Tv,vsV,fpV,rfl,hBv,hcapv,hfv,hcsv,eV⟩
 ·cases h9
 subst hv0 hvv
 have hszt:tW.size=2:=rfl
 have eV':=eV
 have hvl:vsV.length=2:=by have:=eV.len; rw [hszt]at this; exact this
 rw [hszt]at hcsv hcapv
 have h1v:=fun v hv=>zia (eV.isCells (by decide) v hv)
 have hbvf:bv∈f2:=by rw [hfv]; exact List.mem_cons_self
 have hvlt:bv < w.heap.size:=(hfr bv (List.mem_append.2 (.inr hbvf))).1
 rcases hc0 with ⟨rfl,rfl,rfl,rfl⟩ | ⟨b,o,c,T,vs0,fp0,rfl,hB,hcap,hf0,hcs0,e0⟩
 ·
  have hi0':i=0:=by simpa using hi
  subst hi0'
  have hgm0: ∀ x∈([]:List (List Nat)).flatten++fpV.flatten,x∈ []++f2:=fun x hx=>by
   simp only [List.flatten_nil,List.nil_append]at hx ⊢
   rw [hfv]; exact List.mem_cons_of_mem _ hx
  have hgn0:(([]:List (List Nat)).flatten++fpV.flatten).Nodup:=by
   simp only [List.flatten_nil,List.nil_append]
   rw [hfv]at hndr
   exact (List.nodup_cons.1 hndr).2
  rcases zik (P:=Tryz.prog) (w:=w) (t:=27) (e:=129) (z:=zeroVal tW) hund hi0 hz0 (base:=none) (xa:=some ⟨bv,ov,none⟩) (sLen:=0) (sCap:=0) (n:=1) (c:=capv) (olds:= []) (news:=vsV) ⟨by simp,.inl rfl⟩ ⟨by rw [hvl,hsz],.inr ⟨bv,ov,rfl,by rw [hsz]; exact hcsv⟩⟩ (eV.isCells (by decide)) (Nat.le_refl _) (fun _=>rfl) (by omega) (by rw [hzc,hsz]) (by rw [hbz]; decide) (by omega) (fun h=>by omega) with ⟨h,_⟩ | ⟨_,cap,rest,hcp,hrest,hr⟩
  ·omega
  ·refine (y7j w _ _ _ _ hr).mono fun e w2 ⟨he,hw2⟩=> ?_
   subst he hw2
   rw [hsz]at hrest
   have hnew:hp (World.push w.drew (.cells (([]:List Value).toArray++vsV.toArray++rest) 129)) w.heap.size=some (.cells (([]:List Value).toArray++vsV.toArray++rest) 129 (0,0)):=zb2 (w:=w.drew)
   have hcs:(([]:List Value).toArray++vsV.toArray++rest).size=vsV.length+rest.size:=by simp
   refine yE7 (B:=w.heap.size) rfl (by rw [zcG]; exact Nat.le_succ _) (.inl ⟨Nat.le_refl _,by rw [zcG]; exact Nat.lt_succ_self _⟩) (fun hz=>by have:=hlow _ (.inl hz); omega) (fun b hb _=>zad (w:=w.drew) hb) (yJE (fp0:= []) (i:=0)) hgn0 (fun x hx=>by have:=(hfr x (hgm0 x hx)).1; omega) (fun x hx=>⟨by rw [hfl]; exact hgm0 x hx,(hfr x (hgm0 x hx)).2.1⟩) ?_
   refine yJF (h:=hp w) (vs0:= []) (f0:= []) (i:=0) Elems.nil eV' (Nat.le_refl _) (fun b hb=>zad (w:=w.drew) (hlow b (.inl hb))) (fun x hx=>zad (w:=w.drew) (hfr x (hgm0 x hx)).1) hnew (by rw [hcs]; omega) (by simpa using hcp) (by decide) ?_
   have:=zaP hnew (o:=0) (n:=2) (by rw [hcs]; omega)
   show zd _ _ 0 2=_
   rw [this]
   simp [hvl]
 ·have e0':=e0
  have hgm: ∀ x∈fp0.flatten++fpV.flatten,x∈f0++f2:=fun x hx=>by
   rcases List.mem_append.1 hx with h | h
   ·exact List.mem_append.2 (.inl (by rw [hf0]; exact List.mem_cons_of_mem _ h))
   ·exact List.mem_append.2 (.inr (by rw [hfv]; exact List.mem_cons_of_mem _ h))
  have hgm2: ∀ x∈fp0.flatten++fpV.flatten,x∈([f0,[],f2]:List (List Nat)).flatten∧ ¬ Z x:=fun x hx=>⟨by rw [hfl]; exact hgm x hx,(hfr x (hgm x hx)).2.1⟩
  have hgl: ∀ x∈fp0.flatten++fpV.flatten,x < w.heap.size:=fun x hx=>(hfr x (hgm x hx)).1
  have hgs: ∀ x∈fp0.flatten++fpV.flatten,x≠w.heap.size:=fun x hx=>by have:=hgl x hx; omega
  have hnd3:((b::fp0.flatten)++(bv::fpV.flatten)).Nodup:=by rw [← hf0,← hfv]; exact hnd
  have hsub:(b::(fp0.flatten++fpV.flatten)).Sublist ((b::fp0.flatten)++(bv::fpV.flatten)):=List.Sublist.cons_cons _ (List.Sublist.append (List.Sublist.refl _) (List.sublist_cons_self _ _))
  have hgb':=hnd3.sublist hsub
  rw [List.nodup_cons]at hgb'
  have hgn:=hgb'.2
  have hgb: ∀ x∈fp0.flatten++fpV.flatten,x≠b:=fun x hx e=>hgb'.1 (e ▸ hx)
  have hl0:=e0.len
  rw [hszt]at hcs0 hcap hl0
  have h1c:=fun v hv=>zia (e0.isCells (by decide) v hv)
  have hbf:b∈f0:=by rw [hf0]; exact List.mem_cons_self
  have hbf':b∈f0++f2:=List.mem_append.2 (.inl hbf)
  obtain ⟨hblt,hbZ,_⟩:=hfr b hbf'
  have hbvb:bv≠b:=fun e=>hdis b hbf bv hbvf e.symm
  have hkZ: ∀ {w2:World},(∀ b',b'≠b→hp w2 b'=hp w b')→ ∀ b',Z b'→hp w2 b'=hp w b':=fun h b' hb'=>h b' (fun e=>hbZ (e ▸ hb'))
  by_cases hin:i=l.length
  ·subst hin
   rcases zik (P:=Tryz.prog) (w:=w) (t:=27) (e:=129) (z:=zeroVal tW) hund hi0 hz0 (base:=some ⟨b,o,none⟩) (xa:=some ⟨bv,ov,none⟩) (sLen:=l.length) (sCap:=cap) (n:=1) (c:=capv) (olds:=vs0) (news:=vsV) ⟨by rw [hl0,hsz],.inr ⟨b,o,rfl,by rw [hsz]; exact hcs0⟩⟩ ⟨by rw [hvl,hsz],.inr ⟨bv,ov,rfl,by rw [hsz]; exact hcsv⟩⟩ (eV.isCells (by decide)) hlc (fun h=>by cases h) (by omega) (by rw [hzc,hsz]) (by rw [hbz]; exact hbnd) (by omega) (fun h ad had=>by cases had; exact ⟨b,o,c,T,rfl,hB,by rw [hsz]; exact hcap⟩) with ⟨hroom,h⟩ | ⟨_,cap2,rest,hcp,hrest,hr⟩
   ·rcases h with ⟨h,_⟩ | ⟨b2,o2',cur,T2,hbo,hB2,hcap2,hr⟩
    ·cases h
    ·cases hbo
     rw [hB]at hB2
     cases hB2
     refine (y5J w b o l.length cap _ _ _ _ hlc hr).mono fun e w2 ⟨he,hw2⟩=> ?_
     subst he hw2
     rw [hsz]
     have hBn:hp (World.setBlk w b (ze c (o+l.length * 2) vsV) T) b=some (.cells (ze c (o+l.length * 2) vsV) T (0,0)):=za3 hblt
     have oth: ∀ b',b'≠b→hp (World.setBlk w b (ze c (o+l.length * 2) vsV) T) b'=hp w b':=fun b' h=>za4 h
     refine yE7 (B:=b) rfl (by simp [World.setBlk]) (.inr (by rw [hfl]; exact hbf')) hbZ (fun b' _ hb'=>oth b' (fun e=>hb' (by rw [hfl,e]; exact hbf'))) (yJE (i:=l.length)) hgn hgb hgm2 ?_
     refine yJF (h:=hp w) (vs0:=vs0) (i:=l.length) e0' eV' (Nat.le_refl _) (hkZ oth) (fun x hx=>oth x (hgb x hx)) hBn (by rw [zaL]; exact hcap) hroom hbnd ?_
     rw [List.take_of_length_le (by omega),List.drop_eq_nil_of_le (by omega),List.append_nil]
     have hL:(vs0++vsV).length=(l.length+1) * 2:=by rw [List.length_append]; omega
     have:=zab (h:=hp (World.setBlk w b (ze c (o+l.length * 2) vsV) T)) (b:=b) (vs0++vsV) o (fun j hj=>by
      rw [hL]at hj
      unfold zF
      rw [hBn]
      show (ze c (o+l.length * 2) vsV)[o+j]? =_
      rw [z3 _ _ _ _ (by omega)]
      by_cases h1:j < l.length * 2
      ·rw [if_neg (by omega),List.getElem?_append_left (by omega),zX hcs0 j h1]
       unfold zF; rw [hB]
      ·rw [if_pos (by omega),List.getElem?_append_right (by omega)]
       exact yOJ (by omega))
     rw [hL]at this; exact this
   ·refine (y5J w b o l.length cap _ _ _ _ hlc hr).mono fun e w2 ⟨he,hw2⟩=> ?_
    subst he hw2
    rw [hsz]at hrest
    have hnew:hp (World.push w.drew (.cells (vs0.toArray++vsV.toArray++rest) 129)) w.heap.size=some (.cells (vs0.toArray++vsV.toArray++rest) 129 (0,0)):=zb2 (w:=w.drew)
    have hcs:(vs0.toArray++vsV.toArray++rest).size=vs0.length+vsV.length+rest.size:=by simp
    refine yE7 (B:=w.heap.size) rfl (by rw [zcG]; exact Nat.le_succ _) (.inl ⟨Nat.le_refl _,by rw [zcG]; exact Nat.lt_succ_self _⟩) (fun hz=>by have:=hlow _ (.inl hz); omega) (fun b hb _=>zad (w:=w.drew) hb) (yJE (i:=l.length)) hgn hgs hgm2 ?_
    refine yJF (h:=hp w) (vs0:=vs0) (i:=l.length) e0' eV' (Nat.le_refl _) (fun b hb=>zad (w:=w.drew) (hlow b (.inl hb))) (fun x hx=>zad (w:=w.drew) (hgl x hx)) hnew (by rw [hcs]; omega) hcp hbnd ?_
    have:=zaP hnew (o:=0) (n:=(l.length+1) * 2) (by rw [hcs]; omega)
    have t1:vs0.take (l.length * 2)=vs0:=List.take_of_length_le (by omega)
    have t2:vs0.drop (l.length * 2)= []:=List.drop_eq_nil_of_le (by omega)
    rw [this,t1,t2]
    simp only [Array.toList_append,List.drop_zero,List.append_nil,Option.some.injEq]
    rw [List.take_append_of_le_length (by rw [List.length_append]; omega),List.take_of_length_le (by rw [List.length_append]; omega)]
  ·have hlt:i < l.length:=by omega
   have hpl:(vs0.take (i * 2)).length=i * 2:=by rw [List.length_take]; omega
   have hcl:(vs0.drop (i * 2)).length=(l.length - i) * 2:=by rw [List.length_drop]; omega
   have hcsd:Hdd (∀ j v,(vs0.drop (i * 2))[j]? =some v→w.cell? ⟨b,o+i * 2+j,none⟩=some v):=fun j v hj=>by
    rw [List.getElem?_drop]at hj
    rw [Nat.add_assoc]
    exact yAB hcs0 _ v hj
   by_cases hroom:l.length+1≤cap
   ·have hin: ∀ j,j < (l.length+1) * 2→(w.cell? ⟨b,o+j,none⟩).isSome=true∧w.frozen? ⟨b,o+j,none⟩=false:=fun j hj=>y5F hB (by omega)
    refine (y6u w b o l.length cap i bv ov capv (vs0.drop (i * 2)) vsV hlt hroom (by omega) hbvb hund (by rw [hi0]; simp [hsz]) (fun w=>by rw [zT hi0,hsz]) hcl hvl hcsd (fun j hj=>(hin j hj).1) (fun j hj=>(hin j hj).2) (yAB hcsv) (fun v hv=>h1c v (List.mem_of_mem_drop hv)) h1v Tv T cv.size c.size (y5e hBv) (y5e hB) (by omega) (y7v hBv _) (y7v hBv _)).mono fun e w2 ⟨he,hw2⟩=> ?_
    subst he
    have e1:w.drew.setCells b (o+(i+1) * 2) (vs0.drop (i * 2))=World.setBlk w.drew b (ze c (o+(i+1) * 2) (vs0.drop (i * 2))) T:=yiu _ _ w.drew c hB (by omega)
    have hb1:hp (World.setBlk w.drew b (ze c (o+(i+1) * 2) (vs0.drop (i * 2))) T) b=some (.cells (ze c (o+(i+1) * 2) (vs0.drop (i * 2))) T (0,0)):=za3 (w:=w.drew) hblt
    rw [e1,yiu vsV _ _ _ hb1 (by rw [zaL]; omega)] at hw2
    subst hw2
    have hsz1:b < (World.setBlk w.drew b (ze c (o+(i+1) * 2) (vs0.drop (i * 2))) T).heap.size:=by simp [World.setBlk]<;>exact hblt
    have hBn:hp (World.setBlk (World.setBlk w.drew b (ze c (o+(i+1) * 2) (vs0.drop (i * 2))) T) b (ze (ze c (o+(i+1) * 2) (vs0.drop (i * 2))) (o+i * 2) vsV) T) b=some (.cells (ze (ze c (o+(i+1) * 2) (vs0.drop (i * 2))) (o+i * 2) vsV) T (0,0)):=za3 hsz1
    have oth: ∀ b',b'≠b→hp (World.setBlk (World.setBlk w.drew b (ze c (o+(i+1) * 2) (vs0.drop (i * 2))) T) b (ze (ze c (o+(i+1) * 2) (vs0.drop (i * 2))) (o+i * 2) vsV) T) b'=hp w b':=fun b' h=>(za4 h).trans (za4 (w:=w.drew) h)
    refine yE7 (B:=b) rfl (by simp [World.setBlk]<;>exact Nat.le_refl _) (.inr (by rw [hfl]; exact hbf')) hbZ (fun b' _ hb'=>oth b' (fun e=>hb' (by rw [hfl,e]; exact hbf'))) (yJE (i:=i)) hgn hgb hgm2 ?_
    refine yJF (h:=hp w) (vs0:=vs0) (i:=i) e0' eV' hi (hkZ oth) (fun x hx=>oth x (hgb x hx)) hBn (by rw [zaL,zaL]; exact hcap) hroom hbnd ?_
    refine ySj hBn hl0 hvl hi (fun j hj=> ?_) (fun j hj=> ?_) (fun j hj=> ?_)
    ·rw [z3 _ _ _ _ (by rw [zaL]; omega),z3 _ _ _ _ (by omega),if_neg (by omega),if_neg (by omega),zX hcs0 j (by omega)]
     unfold zF; rw [hB]
    ·rw [z3 _ _ _ _ (by rw [zaL]; omega),if_pos (by omega)]
     exact yOJ (by omega)
    ·rw [z3 _ _ _ _ (by rw [zaL]; omega),z3 _ _ _ _ (by omega),if_neg (by omega),if_pos (by omega),List.getElem?_drop]
     exact yOJ (by omega)
   ·refine (y60 w b o l.length cap i bv ov capv (vs0.take (i * 2)) (vs0.drop (i * 2)) vsV hlt hlc (by omega) hbnd hund (by kernel_rfl) i0 hi0 (zeroVal tW) hz0 hsz hbz hzc hpl hcl hvl hblt hvlt (fun j v hj=>by
     rw [List.getElem?_take]at hj
     split at hj
     ·exact yAB hcs0 _ v hj
     ·cases hj) hcsd (yAB hcsv) (fun v hv=>h1c v (List.mem_of_mem_drop hv)) h1v).mono fun e w2 ⟨he,hw2⟩=> ?_
    subst he
    generalize hG:grownCap w (l.length+1) cap 129=G at hw2
    have hGn:l.length+1≤G:=by rw [← hG]; exact grownCap_ge w _ _ _
    generalize hROW:(vs0.take (i * 2)).toArray++Builtin.zeroCells (zeroVal tW).cells (l.length+1 - i)++Builtin.zeroCells (zeroVal tW).cells (G - (l.length+1))=ROW at hw2
    have hRs:ROW.size=G * 2:=by
     rw [← hROW,Array.size_append,Array.size_append,size_zeroCells,size_zeroCells,hzc,List.size_toArray,hpl]
     omega
    have hRg: ∀ j,j < i * 2→ROW[j]? =vs0[j]? :=fun j hj=>by
     rw [← hROW,Array.append_assoc,Array.getElem?_append_left (by simp; omega)]
     simp [List.getElem?_take,hj]
    have hA0:hp (w.alloc (.cells ROW 129)).drew w.heap.size=some (.cells ROW 129 (0,0)):=zb2 (w:=w)
    have hs0:(w.alloc (.cells ROW 129)).drew.heap.size=w.heap.size+1:=zcG (w:=w)
    have ho0: ∀ b',b' < w.heap.size→hp (w.alloc (.cells ROW 129)).drew b'=hp w b':=fun b' h=>zad (w:=w) h
    have hi0':ioOf (w.alloc (.cells ROW 129)).drew=ioOf w:=rfl
    generalize (w.alloc (.cells ROW 129)).drew=A0 at hw2 hA0 hs0 ho0 hi0'
    rw [yiu vsV _ _ _ hA0 (by omega)] at hw2
    have hA1:hp (World.setBlk A0 w.heap.size (ze ROW (i * 2) vsV) 129).drew w.heap.size=some (.cells (ze ROW (i * 2) vsV) 129 (0,0)):=za3 (w:=A0) (by omega)
    have hs1:(World.setBlk A0 w.heap.size (ze ROW (i * 2) vsV) 129).drew.heap.size=w.heap.size+1:=by
     show (World.setBlk A0 w.heap.size (ze ROW (i * 2) vsV) 129).heap.size=_
     simp [World.setBlk]; exact hs0
    have ho1: ∀ b',b' < w.heap.size→hp (World.setBlk A0 w.heap.size (ze ROW (i * 2) vsV) 129).drew b'=hp w b':=fun b' h=>(za4 (w:=A0) (by omega)).trans (ho0 b' h)
    have hi1':ioOf (World.setBlk A0 w.heap.size (ze ROW (i * 2) vsV) 129).drew=ioOf w:=hi0'
    generalize (World.setBlk A0 w.heap.size (ze ROW (i * 2) vsV) 129).drew=A1 at hw2 hA1 hs1 ho1 hi1'
    rw [yiu _ _ _ _ hA1 (by rw [zaL]; omega)] at hw2
    subst hw2
    have hBn:hp (World.setBlk A1 w.heap.size (ze (ze ROW (i * 2) vsV) ((i+1) * 2) (vs0.drop (i * 2))) 129) w.heap.size=some (.cells (ze (ze ROW (i * 2) vsV) ((i+1) * 2) (vs0.drop (i * 2))) 129 (0,0)):=za3 (by omega)
    have oth: ∀ b',b' < w.heap.size→hp (World.setBlk A1 w.heap.size (ze (ze ROW (i * 2) vsV) ((i+1) * 2) (vs0.drop (i * 2))) 129) b'=hp w b':=fun b' h=>(za4 (by omega)).trans (ho1 b' h)
    have hsz2:(World.setBlk A1 w.heap.size (ze (ze ROW (i * 2) vsV) ((i+1) * 2) (vs0.drop (i * 2))) 129).heap.size=w.heap.size+1:=by simp [World.setBlk]<;>exact hs1
    refine yE7 (B:=w.heap.size) hi1' (by omega) (.inl ⟨Nat.le_refl _,by omega⟩) (fun hz=>by have:=hlow _ (.inl hz); omega) (fun b' hb' _=>oth b' hb') (yJE (i:=i)) hgn hgs hgm2 ?_
    refine yJF (h:=hp w) (vs0:=vs0) (i:=i) e0' eV' hi (fun b' hb'=>oth b' (hlow b' (.inl hb'))) (fun x hx=>oth x (hgl x hx)) hBn (by rw [zaL,zaL]; omega) hGn hbnd ?_
    refine ySj hBn hl0 hvl hi (fun j hj=> ?_) (fun j hj=> ?_) (fun j hj=> ?_)
    ·rw [z3 _ _ _ _ (by rw [zaL]; omega),z3 _ _ _ _ (by omega),if_neg (by omega),if_neg (by omega),Nat.zero_add,hRg j hj]
    ·rw [z3 _ _ _ _ (by rw [zaL]; omega),if_neg (by omega),z3 _ _ _ _ (by omega),if_pos (by omega)]
     exact yOJ (by omega)
    ·rw [z3 _ _ _ _ (by rw [zaL]; omega),if_pos (by omega),List.getElem?_drop]
     exact yOJ (by omega)
theorem y7w:ConOk Tryz.prog 180 yPI where
 fn:=⟨_,Tryz.func180,by kernel_rfl,by kernel_rfl⟩
 run:=fun w Z R xs args fs r ha hF hz hnd hfr=>by
  obtain ⟨l,i,v,_⟩:=xs
  rcases args with _ | ⟨a0,_ | ⟨a1,_ | ⟨a2,_ | ⟨a3,t⟩⟩⟩⟩<;>rcases fs with _ | ⟨f0,_ | ⟨f1,_ | ⟨f2,_ | ⟨f3,u⟩⟩⟩⟩<;>try (simp [ArgsOk,yPI]at ha; done)
  obtain ⟨⟨cs0,rfl,o0⟩,⟨cs1,rfl,hi1⟩,rfl,⟨cs2,rfl,o2⟩,_⟩:=ha
  obtain ⟨rfl,hif⟩:=hi1
  have hF':(bif yaZ l i v then some (((yiL l i v,()),()):ResD yiA×MutD yix) else none)=some r:=hF
  cases hq:yaZ l i v with
  | false=>rw [hq]at hF'; cases hF'
  | true =>
   rw [hq]at hF'
   obtain rfl:=Option.some.inj hF'
   simp only [yaZ,Bool.and_eq_true]at hq
   obtain ⟨i0,i1,hv1,hbnd⟩:=hq
   have i0:=zjE.1 i0
   have i1:=zjE.1 i1
   have hv1:=beq_iff_eq.1 hv1
   have hbnd:=of_decide_eq_true hbnd
   obtain ⟨k,hk⟩: ∃ k:Nat,i=(k:Int):=⟨Int.toNat i,(Int.toNat_of_nonneg i0).symm⟩
   subst hk
   have hone: ∃ x:dW,v= [x]:=by
    have hv1:List.length (α:=dW) v=1:=hv1
    match v,hv1 with
    | [x],_=>exact ⟨x,rfl⟩
   obtain ⟨x,rfl⟩:=hone
   have hl1:=Own.len o0
   have hl2:=Own.len o2
   obtain ⟨a0,rfl⟩:=List.length_eq_one_iff.1 hl1
   obtain ⟨a2,rfl⟩:=List.length_eq_one_iff.1 hl2
   have hfe:([f0,[],f2]:List (List Nat)).flatten=f0++f2:=by simp
   rw [hfe]at hnd hfr
   exact y7k w Z R l k x a0 a2 f0 f2 o0 o2 (by have:=i1; omega) hbnd hz hnd hfr
def yan (a0:List dW) (a1:Int) (a2:List dW):Option (ResD yiA×MutD yix):=bif yaZ a0 a1 a2 then (fun n=>some ((n,()),())) (yiL a0 a1 a2) else none
theorem yKQ (a0:List dW) (a1:Int) (a2:List dW) (h:yaZ a0 a1 a2=true):yan a0 a1 a2=(fun n=>some ((n,()),())) (yiL a0 a1 a2):=by unfold yan; rw [h]; rfl
def yv7:Con:=⟨yix,yiA,fun x=>yan x.1 x.2.1 x.2.2.1⟩
theorem yKK:ConOk Tryz.prog 180 yv7:=y7w
end
end Go.Tf
