/- Functions of the program, and what they come to. -/
import Derived.Test.YtgmadfpnljibhaaGreatExactSetBlockF10
import Derived.Deep.RegionLaw
import Derived.Laws.Externs
import Derived.Laws.IdiomCopy
import Derived.Laws.NewBlocks
import Derived.Lib.AppendZerosOnto
import Derived.Lib.Overlaps
import Derived.Lib.SliceRun
import Derived.Lib.Walk
import Derived.Shelf.RegionOpenPlain
import Derived.Shelf.Spec.SlicesInsert
import Derived.WalkKit
namespace Go.Tf
noncomputable section
open Go.Proofs
set_option synthInstance.maxHeartbeats 400000
set_option synthInstance.maxSize 10000
set_option linter.unusedVariables false
set_option linter.unusedSimpArgs false
set_option maxRecDepth 100000
section
def yyb:Code:=(Tryz.f177.body).getD .skip
def yyL:Env:=zki TT [(121,ykZ),(135,yl)] []
theorem yDS:FrOk Tryz.prog ⟨yyL,16,fun _=>none⟩ yyb:=zkp yb yc ⟨ysi,yv,trivial⟩
def yEH:Nat→Option Seg:=fun _=>none
abbrev ydl:List Par:= [.rd tG,.rd tI]
abbrev ykR:List OT:= [⟨false,tI,.fz⟩]
def yhB (a0:dG) (a1:Int):Option (ResD ykR×MutD ydl) :=
 let r1:=yn a0
 let r2:=ya a1 0 (IntKind.i64.wrap (r1 - 1))
 bif (!r2) then
 some (((-1),()),())
 else
 bif ((IntKind.i64.wrap (a0.1 - 1)) !=0) then
 some (((IntKind.i64.wrap (a1.tdiv (IntKind.i64.wrap (a0.1 - 1)))),()),())
 else none
theorem yKw (x:InD ydl):zjH ⟨yyL,16,yEH⟩ Tryz.f177.results.toList yyb ydl ykR x=yhB x.1 x.2.1:=by kernel_rfl
theorem yF9:ConOk Tryz.prog 177 ⟨ydl,ykR,fun x=>yhB x.1 x.2.1⟩:=zkh (yDS) Tryz.func177 (by kernel_rfl) (by kernel_rfl) Tryz.ntmps177.symm (by decide) (fun x r h=>(yKw x).trans h)
def ygG (a0:dG) (a1:Int):Int:=yB a0 a1
theorem yIH (a0:dG) (a1:Int) (hk:zi9 ydl (a0,a1,())):yhB a0 a1=(fun n=>some ((n,()),())) (ygG a0 a1):=by
 unfold yhB ygG yB
 simp only [yKb]
 cases hb:ygx a0 a1
 ·rfl
 ·obtain ⟨h1,h2,h3⟩:=ylW hb
  have h4:=yo.1 h1
  rw [wr (show -9223372036854775808≤a0.1 - 1 by omega) (by omega),show (a0.1 - 1 !=0)=true from bne_iff_ne.2 (by omega),wr (by omega) (by omega)]; rfl
def yuX:Con:=⟨ydl,ykR,fun x=>(fun n=>some ((n,()),())) (ygG x.1 x.2.1)⟩
theorem yJg:ConOk Tryz.prog 177 yuX:=(yF9).mono (fun x r hk h=>(yIH x.1 x.2.1 hk).trans h)
end
section
def yzV:Code:=(Tryz.f178.body).getD .skip
def yAn:Env:=zki TT [(121,ykZ),(135,yl)] []
theorem yFt:FrOk Tryz.prog ⟨yAn,16,fun _=>none⟩ yzV:=zkp yb yc ⟨ysi,yv,trivial⟩
def yGR:Nat→Option Seg:=fun _=>none
abbrev yeq:List Par:= [.rd tG,.rd tI]
abbrev ym3:List OT:= [⟨false,tI,.fz⟩]
def yjk (a0:dG) (a1:Int):Option (ResD ym3×MutD yeq) :=
 let r1:=yn a0
 let r2:=ya a1 0 (IntKind.i64.wrap (r1 - 1))
 bif (!r2) then
 some (((-1),()),())
 else
 bif ((IntKind.i64.wrap (a0.1 - 1)) !=0) then
 some (((a1.tmod (IntKind.i64.wrap (a0.1 - 1))),()),())
 else none
theorem yNC (x:InD yeq):zjH ⟨yAn,16,yGR⟩ Tryz.f178.results.toList yzV yeq ym3 x=yjk x.1 x.2.1:=by kernel_rfl
theorem yI0:ConOk Tryz.prog 178 ⟨yeq,ym3,fun x=>yjk x.1 x.2.1⟩:=zkh (yFt) Tryz.func178 (by kernel_rfl) (by kernel_rfl) Tryz.ntmps178.symm (by decide) (fun x r h=>(yNC x).trans h)
def yip (a0:dG) (a1:Int):Int:=ycd a0 a1
theorem yLF (a0:dG) (a1:Int) (hk:zi9 yeq (a0,a1,())):yjk a0 a1=(fun n=>some ((n,()),())) (yip a0 a1):=by
 unfold yjk yip ycd
 simp only [yKb]
 cases hb:ygx a0 a1
 ·rfl
 ·obtain ⟨h1,h2,h3⟩:=ylW hb
  have h4:=yo.1 h1
  rw [wr (show -9223372036854775808≤a0.1 - 1 by omega) (by omega),show (a0.1 - 1 !=0)=true from bne_iff_ne.2 (by omega)]; rfl
def yw1:Con:=⟨yeq,ym3,fun x=>(fun n=>some ((n,()),())) (yip x.1 x.2.1)⟩
theorem yMz:ConOk Tryz.prog 178 yw1:=(yI0).mono (fun x r hk h=>(yLF x.1 x.2.1 hk).trans h)
end
section
def ylu:Code:=(Tryz.f246.body).getD .skip
def yqr:Env:=zki TT [] [(4096,(.pr .fz .fz)),(28800,(.pr .fz .fz)),(41472,(.pr .fz .fz)),(49280,(.pr .fz .fz))]
theorem yLf:FrOk Tryz.prog ⟨yqr,67,fun _=>none⟩ ylu:=zkp yb yc trivial
def yAf:Nat→Option Seg:=fun _=>none
def ybY:Shape:=⟨[(0,false,[.ptr 1000000000 0]),(3,false,[.ptr 0 0]),(4,false,[.at 800000000]),(5,false,[.bool]),(6,false,[.int .i64])],[(0,[.int .i64,.fz tI]),(1000000000,[.int .i64,.int .i64,.int .i64,.at 800000001,.int .i64,.int .i64,.int .i64,.int .i64,.int .i64,.at 800000002,.int .i64,.bool,.bool])],[(800000000,tW,(.pr .fz .fz)),(800000001,tM,(.pr (.ow .fz) (.pr (.ow (.pr .fz .fz)) (.pr .fz (.ow .fz))))),(800000002,tW,(.pr .fz .fz))]⟩
def yge:Shape:=⟨[(0,false,[.ptr 1000000000 0]),(3,false,[.ptr 0 0]),(4,false,[.at 800000000]),(5,false,[.cb false]),(6,false,[.ci .i64 0])],[(0,[.int .i64,.fz tI]),(1000000000,[.int .i64,.int .i64,.int .i64,.at 800000001,.int .i64,.int .i64,.int .i64,.int .i64,.int .i64,.at 800000002,.int .i64,.bool,.bool])],[(800000000,tW,(.pr .fz .fz)),(800000001,tM,(.pr (.ow .fz) (.pr (.ow (.pr .fz .fz)) (.pr .fz (.ow .fz))))),(800000002,tW,(.pr .fz .fz))]⟩
def yfZ:Shape:=⟨[(0,false,[.ptr 1000000000 0]),(3,false,[.ptr 0 0]),(4,false,[.at 800000000]),(5,false,[.bool])],[(0,[.int .i64,.fz tI]),(1000000000,[.int .i64,.int .i64,.int .i64,.at 800000001,.int .i64,.int .i64,.int .i64,.int .i64,.int .i64,.at 800000002,.int .i64,.bool,.bool])],[(800000000,tW,(.pr .fz .fz)),(800000001,tM,(.pr (.ow .fz) (.pr (.ow (.pr .fz .fz)) (.pr .fz (.ow .fz))))),(800000002,tW,(.pr .fz .fz))]⟩
def ykX:Shape:=⟨[],[],[]⟩
abbrev ypJ (v0:Bool) (v1:Int) (v2:dW) (v3:dA) (v4:List dW):(ybY).X:=((((),()),((),()),((),()),(v0,()),(v1,()),()),((v2.1,v2.2,()),(v3.1,v3.2.1.1,v3.2.1.2,(),v3.2.2.2.1,v3.2.2.2.2.1,v3.2.2.2.2.2.1,v3.2.2.2.2.2.2.1,v3.2.2.2.2.2.2.2.1,(),v3.2.2.2.2.2.2.2.2.2.1,v3.2.2.2.2.2.2.2.2.2.2.1,v3.2.2.2.2.2.2.2.2.2.2.2,()),()),(v4,v3.2.2.1,v3.2.2.2.2.2.2.2.2.1,()))
abbrev yIk (v0:dW) (v1:dA) (v2:List dW):(yge).X:=((((),()),((),()),((),()),((),()),((),()),()),((v0.1,v0.2,()),(v1.1,v1.2.1.1,v1.2.1.2,(),v1.2.2.2.1,v1.2.2.2.2.1,v1.2.2.2.2.2.1,v1.2.2.2.2.2.2.1,v1.2.2.2.2.2.2.2.1,(),v1.2.2.2.2.2.2.2.2.2.1,v1.2.2.2.2.2.2.2.2.2.2.1,v1.2.2.2.2.2.2.2.2.2.2.2,()),()),(v2,v1.2.2.1,v1.2.2.2.2.2.2.2.2.1,()))
abbrev yIb (v0:Bool) (v1:dW) (v2:dA) (v3:List dW):(yfZ).X:=((((),()),((),()),((),()),(v0,()),()),((v1.1,v1.2,()),(v2.1,v2.2.1.1,v2.2.1.2,(),v2.2.2.2.1,v2.2.2.2.2.1,v2.2.2.2.2.2.1,v2.2.2.2.2.2.2.1,v2.2.2.2.2.2.2.2.1,(),v2.2.2.2.2.2.2.2.2.2.1,v2.2.2.2.2.2.2.2.2.2.2.1,v2.2.2.2.2.2.2.2.2.2.2.2,()),()),(v3,v2.2.2.1,v2.2.2.2.2.2.2.2.2.1,()))
def yp1 (v0:Bool) (v1 v2:Int) (v3:List Int) (v4 v5 v6 v7 v8 v9 v10 v11 v12:Int) (v13 v14:Bool) (v15:List dW) (v16:List dM) (v17:List dW):Option ((ybY).X ⊕ ((yfZ).X ⊕ (ykX).X)) :=
 bif (ltb v1 (v17.length:Int)) then
 bif (!v0) then
 bif (inb v1 v17.length) then
 bif (leb v2 ((nth v17 v1 (0,[])).1)) then
 bif (zj4 v15.length ([(v2,v3)]:List dW).length 32) then
 bif (inb v1 v17.length) then
 bif ((nth v17 v1 (0,[])).1 !=v2) then
 bif (inb v1 v17.length) then
 bif (zj4 (v15++([(v2,v3)]:List dW)).length ([(nth v17 v1 (0,[]))]:List dW).length 32) then
 some (.inl ((((),()),((),()),((),()),(true,()),((IntKind.i64.wrap (v1+1)),()),()),((v2,v3,()),(v4,v5,v6,(),v7,v8,v9,v10,v11,(),v12,v13,v14,()),()),(((v15++([(v2,v3)]:List dW))++([(nth v17 v1 (0,[]))]:List dW)),v16,v17,())))
 else none
 else none
 else
 some (.inl ((((),()),((),()),((),()),(true,()),((IntKind.i64.wrap (v1+1)),()),()),((v2,v3,()),(v4,v5,v6,(),v7,v8,v9,v10,v11,(),v12,v13,v14,()),()),((v15++([(v2,v3)]:List dW)),v16,v17,())))
 else none
 else none
 else
 bif (inb v1 v17.length) then
 bif ((nth v17 v1 (0,[])).1 !=v2) then
 bif (inb v1 v17.length) then
 bif (zj4 v15.length ([(nth v17 v1 (0,[]))]:List dW).length 32) then
 some (.inl ((((),()),((),()),((),()),(v0,()),((IntKind.i64.wrap (v1+1)),()),()),((v2,v3,()),(v4,v5,v6,(),v7,v8,v9,v10,v11,(),v12,v13,v14,()),()),((v15++([(nth v17 v1 (0,[]))]:List dW)),v16,v17,())))
 else none
 else none
 else
 some (.inl ((((),()),((),()),((),()),(v0,()),((IntKind.i64.wrap (v1+1)),()),()),((v2,v3,()),(v4,v5,v6,(),v7,v8,v9,v10,v11,(),v12,v13,v14,()),()),(v15,v16,v17,())))
 else none
 else none
 else
 bif (inb v1 v17.length) then
 bif ((nth v17 v1 (0,[])).1 !=v2) then
 bif (inb v1 v17.length) then
 bif (zj4 v15.length ([(nth v17 v1 (0,[]))]:List dW).length 32) then
 some (.inl ((((),()),((),()),((),()),(v0,()),((IntKind.i64.wrap (v1+1)),()),()),((v2,v3,()),(v4,v5,v6,(),v7,v8,v9,v10,v11,(),v12,v13,v14,()),()),((v15++([(nth v17 v1 (0,[]))]:List dW)),v16,v17,())))
 else none
 else none
 else
 some (.inl ((((),()),((),()),((),()),(v0,()),((IntKind.i64.wrap (v1+1)),()),()),((v2,v3,()),(v4,v5,v6,(),v7,v8,v9,v10,v11,(),v12,v13,v14,()),()),(v15,v16,v17,())))
 else none
 else
 some (.inr (.inl ((((),()),((),()),((),()),(v0,()),()),((v2,v3,()),(v4,v5,v6,(),v7,v8,v9,v10,v11,(),v12,v13,v14,()),()),(v15,v16,v17,()))))
def ycp (x:(ybY).X):=yp1 x.1.2.2.2.1.1 x.1.2.2.2.2.1.1 x.2.1.1.1 x.2.1.1.2.1 x.2.1.2.1.1 x.2.1.2.1.2.1 x.2.1.2.1.2.2.1 x.2.1.2.1.2.2.2.2.1 x.2.1.2.1.2.2.2.2.2.1 x.2.1.2.1.2.2.2.2.2.2.1 x.2.1.2.1.2.2.2.2.2.2.2.1 x.2.1.2.1.2.2.2.2.2.2.2.2.1 x.2.1.2.1.2.2.2.2.2.2.2.2.2.2.1 x.2.1.2.1.2.2.2.2.2.2.2.2.2.2.2.1 x.2.1.2.1.2.2.2.2.2.2.2.2.2.2.2.2.1 x.2.2.1 x.2.2.2.1 x.2.2.2.2.1
def yxi (x:(yge).X):(ybY).X:=((((),()),((),()),((),()),(false,()),(0,()),()),((x.2.1.1.1,x.2.1.1.2.1,()),(x.2.1.2.1.1,x.2.1.2.1.2.1,x.2.1.2.1.2.2.1,(),x.2.1.2.1.2.2.2.2.1,x.2.1.2.1.2.2.2.2.2.1,x.2.1.2.1.2.2.2.2.2.2.1,x.2.1.2.1.2.2.2.2.2.2.2.1,x.2.1.2.1.2.2.2.2.2.2.2.2.1,(),x.2.1.2.1.2.2.2.2.2.2.2.2.2.2.1,x.2.1.2.1.2.2.2.2.2.2.2.2.2.2.2.1,x.2.1.2.1.2.2.2.2.2.2.2.2.2.2.2.2.1,()),()),(x.2.2.1,x.2.2.2.1,x.2.2.2.2.1,()))
def yy1:Code:=(zdI ylu 64 244).getD .skip
theorem yJ8:zdI ylu 64 61=some (.block 0 (.loop yy1)):=by kernel_rfl
theorem yMS (x:(ybY).X):zg7 ⟨yqr,67,yAf⟩ 0 yy1 244 ybY yfZ ykX x=ycp x:=by kernel_rfl
def yxw (x:(yge).X):Nat:=18446744073709551616
def yqD (x:(yge).X):Option ((yfZ).X ⊕ (ykX).X):=zr ycp (yxw x) (yxi x)
def yxU:Seg:=⟨yge,yfZ,ykX,yqD⟩
def yAg:Nat→Option Seg:=fun q=>bif Nat.beq q 61 then some yxU else yAf q
theorem yLg:FrOk Tryz.prog ⟨yqr,67,yAg⟩ ylu:=(yLf).loop (sg:=yxU) ybY yxi (by decide) yJ8 ycp yxw (by decide) (fun _=>rfl) (fun x r _ h=>h) yMS
abbrev yeA:List Par:= [.pt tA (.pr .fz (.pr (.pr .fz .fz) (.pr (.ow (.pr (.ow .fz) (.pr (.ow (.pr .fz .fz)) (.pr .fz (.ow .fz))))) (.pr .fz (.pr .fz (.pr .fz (.pr .fz (.pr .fz (.pr (.ow (.pr .fz .fz)) (.pr .fz (.pr .fz .fz))))))))))),.kp tW .fz]
abbrev ylU:List OT:= []
def yns (a0:dA) (a1:dW):Option (ResD ylU×MutD yeA) :=
 zjw (yqD ((((),()),((),()),((),()),((),()),((),()),()),((a1.1,a1.2,()),(a0.1,a0.2.1.1,a0.2.1.2,(),a0.2.2.2.1,a0.2.2.2.2.1,a0.2.2.2.2.2.1,a0.2.2.2.2.2.2.1,a0.2.2.2.2.2.2.2.1,(),a0.2.2.2.2.2.2.2.2.2.1,a0.2.2.2.2.2.2.2.2.2.2.1,a0.2.2.2.2.2.2.2.2.2.2.2,()),()),(([]:List dW),a0.2.2.1,a0.2.2.2.2.2.2.2.2.1,()))) (fun y0 =>
 bif (!y0.1.2.2.2.1.1) then
 bif (zj4 y0.2.2.1.length ([(y0.2.1.1.1,y0.2.1.1.2.1)]:List dW).length 32) then
 some ((),((y0.2.1.2.1.1,(y0.2.1.2.1.2.1,y0.2.1.2.1.2.2.1),y0.2.2.2.1,y0.2.1.2.1.2.2.2.2.1,y0.2.1.2.1.2.2.2.2.2.1,y0.2.1.2.1.2.2.2.2.2.2.1,y0.2.1.2.1.2.2.2.2.2.2.2.1,y0.2.1.2.1.2.2.2.2.2.2.2.2.1,(y0.2.2.1++([(y0.2.1.1.1,y0.2.1.1.2.1)]:List dW)),y0.2.1.2.1.2.2.2.2.2.2.2.2.2.2.1,y0.2.1.2.1.2.2.2.2.2.2.2.2.2.2.2.1,y0.2.1.2.1.2.2.2.2.2.2.2.2.2.2.2.2.1),()))
 else none
 else
 some ((),((y0.2.1.2.1.1,(y0.2.1.2.1.2.1,y0.2.1.2.1.2.2.1),y0.2.2.2.1,y0.2.1.2.1.2.2.2.2.1,y0.2.1.2.1.2.2.2.2.2.1,y0.2.1.2.1.2.2.2.2.2.2.1,y0.2.1.2.1.2.2.2.2.2.2.2.1,y0.2.1.2.1.2.2.2.2.2.2.2.2.1,y0.2.2.1,y0.2.1.2.1.2.2.2.2.2.2.2.2.2.2.1,y0.2.1.2.1.2.2.2.2.2.2.2.2.2.2.2.1,y0.2.1.2.1.2.2.2.2.2.2.2.2.2.2.2.2.1),()))) (fun y0 =>
 none)
theorem yRK (x:InD yeA):zjH ⟨yqr,67,yAg⟩ Tryz.f246.results.toList ylu yeA ylU x=yns x.1 x.2.1:=by kernel_rfl
theorem yOV:ConOk Tryz.prog 246 ⟨yeA,ylU,fun x=>yns x.1 x.2.1⟩:=zkh (yLg) Tryz.func246 (by kernel_rfl) (by kernel_rfl) Tryz.ntmps246.symm (by decide) (fun x r h=>(yRK x).trans h)
def yro (a0:dA) (a1:dW):dA:=yJz a0 (yxG a0.2.2.2.2.2.2.2.2.1 a1)
def yxH (a0:dA) (a1:dW):Bool:=decide (a0.2.2.2.2.2.2.2.2.1.length≤1000)
theorem yQM (a0:dA) (a1:dW) (hk:zi9 yeA (a0,a1,())) (hq:yxH a0 a1=true):yns a0 a1=(fun n=>some ((),(n,()))) (yro a0 a1):=by
 have hq:=of_decide_eq_true hq
 have h1:=zkk (step:=ycp) a0.2.2.2.2.2.2.2.2.1 (0,[]) (fun i s=>ypJ s.1 i a1 a0 s.2) (yba a1) (fun i s=>s.2.length≤i * 2) (fun s=> .inl (yIb s.1 a1 a0 s.2)) (fun i s hi hs=>by
  constructor
  ·simp only [ycp,ypJ,yp1,zjI (show (i:Int) < a0.2.2.2.2.2.2.2.2.1.length by omega),cond_true,wr (show -9223372036854775808≤(i:Int)+1 by omega) (by omega),Int.natCast_add,Int.natCast_one,Int.toNat_natCast,zkO hi,zkV,zjW,yba,zkw.2 (show (s.2.length+ [a1].length) * 32≤140737488355328 by simp only [List.length_cons,List.length_nil]; omega),
    show ∀ x:dW,zj4 s.2.length [x].length 32=true from fun x=>zkw.2 (by simp only [List.length_cons,List.length_nil]; omega),show ∀ x:dW,zj4 (s.2++ [a1]).length [x].length 32=true from fun x=>zkw.2 (by simp only [List.length_append,List.length_cons,List.length_nil]; omega)]
   cases s.1<;>cases leb a1.1 (a0.2.2.2.2.2.2.2.2.1.getD i (0,[])).1<;>cases ((a0.2.2.2.2.2.2.2.2.1.getD i (0,[])).1 !=a1.1)<;>simp
  ·unfold yba
   have: ∀ (b c:Bool) (x:dW),((bif b then s.2++ [a1] else s.2)++(bif c then [x] else [])).length≤(i+1) * 2:=fun b c x=>by
    cases b<;>cases c<;>simp<;>omega
   exact this _ _ _) (fun s hs=>by simp only [ycp,ypJ,yp1,zkm (Int.le_refl _),cond_false]) (false,[]) (Nat.zero_le _) 18446744073709551616 (by omega)
 have hl:((a0.2.2.2.2.2.2.2.2.1.foldl (yba a1) (false,[])).2).length≤2000:=by
  have: ∀ (l:List dW) (s:Bool×List dW),((l.foldl (yba a1) s).2).length≤s.2.length+l.length * 2:=by
   intro l
   induction l with
   | nil=>intro s; simp
   | cons x t ih =>
    intro s
    rw [List.foldl_cons]
    have:=ih (yba a1 s x)
    have h2:(yba a1 s x).2.length≤s.2.length+2:=by
     unfold yba
     cases (!s.1&&leb a1.1 x.1)<;>cases (x.1 !=a1.1)<;>simp
    simp only [List.length_cons]; omega
  have:=this a0.2.2.2.2.2.2.2.2.1 (false,[])
  simp only [List.length_nil]at this
  omega
 unfold yns yro yxG
 refine (congrArg (fun z=>zjw z _ _) (show yqD (yIk a1 a0 [])=_ from h1)).trans ?_
 generalize a0.2.2.2.2.2.2.2.2.1.foldl (yba a1) (false,[])=R at hl
 simp only [zkJ,zkV]
 cases hr:R.1
 ·rw [zkw.2 (show (R.2.length+ [a1].length) * 32≤140737488355328 by simp only [List.length_cons,List.length_nil]; omega)]; rfl
 ·rfl
def yrq (a0:dA) (a1:dW):Option (ResD ylU×MutD yeA):=bif yxH a0 a1 then (fun n=>some ((),(n,()))) (yro a0 a1) else none
theorem yRf (a0:dA) (a1:dW) (h:yxH a0 a1=true):yrq a0 a1=(fun n=>some ((),(n,()))) (yro a0 a1):=by unfold yrq; rw [h]; rfl
def yAM:Con:=⟨yeA,ylU,fun x=>yrq x.1 x.2.1⟩
theorem yRd:ConOk Tryz.prog 246 yAM:=(yOV).mono (fun x r hk h=>zkW h (fun hq=>yQM x.1 x.2.1 hk hq))
end
section
def yCU:Code:=(Tryz.f182.body).getD .skip
def yDf:Env:=zki TT [(176,yuY),(177,yuX),(178,yw1),(246,yAM)] []
theorem yLh:FrOk Tryz.prog ⟨yDf,40,fun _=>none⟩ yCU:=zkp yb yc ⟨yJh,yJg,yMz,yRd,trivial⟩
def yNh:Nat→Option Seg:=fun _=>none
abbrev yeB:List Par:= [.pt tA (.pr .fz (.pr (.pr .fz .fz) (.pr (.ow (.pr (.ow .fz) (.pr (.ow (.pr .fz .fz)) (.pr .fz (.ow .fz))))) (.pr .fz (.pr .fz (.pr .fz (.pr .fz (.pr .fz (.pr (.ow (.pr .fz .fz)) (.pr .fz (.pr .fz .fz))))))))))),.rd tI,.rd tI]
abbrev ylV:List OT:= [⟨false,tI,.fz⟩]
def ynt (a0:dA) (a1 a2:Int):Option (ResD ylV×MutD yeB) :=
 let r1:=ygG a0.2.1 a1
 bnd (yk2 a0 r1) fun r2 =>
 bif (!r2.1.2.1) then
 some ((5,()),(a0,()))
 else
 let r3:=yip a0.2.1 a1
 bif (inb r3 r2.1.1.length) then
 bnd (yrq a0 (r1,(r2.1.1.set (r3).toNat a2))) fun r4 =>
 some ((0,()),(r4.2.1,()))
 else none
theorem yRL (x:InD yeB):zjH ⟨yDf,40,yNh⟩ Tryz.f182.results.toList yCU yeB ylV x=ynt x.1 x.2.1 x.2.2.1:=by kernel_rfl
theorem yOW:ConOk Tryz.prog 182 ⟨yeB,ylV,fun x=>ynt x.1 x.2.1 x.2.2.1⟩:=zkh (yLh) Tryz.func182 (by kernel_rfl) (by kernel_rfl) Tryz.ntmps182.symm (by decide) (fun x r h=>(yRL x).trans h)
def yBa (a:dA) (b n:Int):Int×dA:=bif (yM a (yB a.2.1 b)).2 then (0,yJz a (yxG a.2.2.2.2.2.2.2.2.1 (yB a.2.1 b,(yM a (yB a.2.1 b)).1.set (ycd a.2.1 b).toNat n))) else (5,a)
def yrp (a0:dA) (a1 a2:Int):Int×dA:=yBa a0 a1 a2
def ymf (a0:dA) (a1 a2:Int):Bool:=yI a0&&(ygx a0.2.1 a1&&decide (a0.2.2.2.2.2.2.2.2.1.length≤1000))
theorem yQN (a0:dA) (a1 a2:Int) (hk:zi9 yeB (a0,a1,a2,())) (hq:ymf a0 a1 a2=true):ynt a0 a1 a2=(fun n=>some ((n.1,()),(n.2,()))) (yrp a0 a1 a2):=by
 simp only [ymf,Bool.and_eq_true]at hq
 have hs:=yzO hq.2.1
 obtain ⟨hg,_,hi⟩:=ylW hq.2.1
 unfold ynt yrp yBa
 simp only [ygG,yip]
 rw [yJi a0 (yB a0.2.1 a1) hs]
 simp only [zky,ygH]
 cases hn:(yM a0 (yB a0.2.1 a1)).2
 ·rfl
 ·have hl:=yuf hq.1 hs hn
  have hx:ycd a0.2.1 a1=a1.tmod (a0.2.1.1 - 1):=by unfold ycd; rw [hq.2.1]; rfl
  rw [zjP.2 (show 0≤ycd a0.2.1 a1∧ycd a0.2.1 a1 < (yM a0 (yB a0.2.1 a1)).1.length by omega),yRf _ _ hq.2.2]
  rfl
def ymd (a0:dA) (a1 a2:Int):Option (ResD ylV×MutD yeB):=bif ymf a0 a1 a2 then (fun n=>some ((n.1,()),(n.2,()))) (yrp a0 a1 a2) else none
theorem yRg (a0:dA) (a1 a2:Int) (h:ymf a0 a1 a2=true):ymd a0 a1 a2=(fun n=>some ((n.1,()),(n.2,()))) (yrp a0 a1 a2):=by unfold ymd; rw [h]; rfl
def yAN:Con:=⟨yeB,ylV,fun x=>ymd x.1 x.2.1 x.2.2.1⟩
theorem yRe:ConOk Tryz.prog 182 yAN:=(yOW).mono (fun x r hk h=>zkW h (fun hq=>yQN x.1 x.2.1 x.2.2.1 hk hq))
end
section
def yCS:Code:=(Tryz.f239.body).getD .skip
def yDd:Env:=zki TT [(135,yl),(225,yeU)] []
theorem yLb:FrOk Tryz.prog ⟨yDd,22,fun _=>none⟩ yCS:=zkp yb yc ⟨yv,yk3,trivial⟩
def yNf:Nat→Option Seg:=fun _=>none
abbrev ylS:List Par:= [.rd tN]
abbrev yq2:List OT:= [⟨false,tB,.fz⟩]
def ysB (a0:dN):Option (ResD yq2×MutD ylS) :=
 let r1:=ya a0.1 0 60000
 bif r1 then
 let r2:=ya a0.2.1 0 7
 bif r2 then
 let r3:=ya (a0.2.2.length:Int) 2 4
 bif r3 then
 let r4:=yy a0.2.2
 some ((r4,()),())
 else
 some ((false,()),())
 else
 some ((false,()),())
 else
 some ((false,()),())
theorem yRH (x:InD ylS):zjH ⟨yDd,22,yNf⟩ Tryz.f239.results.toList yCS ylS yq2 x=ysB x.1:=by kernel_rfl
theorem yOS:ConOk Tryz.prog 239 ⟨ylS,yq2,fun x=>ysB x.1⟩:=zkh (yLb) Tryz.func239 (by kernel_rfl) (by kernel_rfl) Tryz.ntmps239.symm (by decide) (fun x r h=>(yRH x).trans h)
def yir (a0:dN):Bool :=
 let r1:=ya a0.1 0 60000
 bif r1 then
 let r2:=ya a0.2.1 0 7
 bif r2 then
 let r3:=ya (a0.2.2.length:Int) 2 4
 bif r3 then
 let r4:=yy a0.2.2
 r4
 else
 false
 else
 false
 else
 false
def yNl:Con:=⟨ylS,yq2,fun x=>(fun n=>some ((n,()),())) (yir x.1)⟩
theorem yQJ (a0:dN):ysB a0=(fun n=>some ((n,()),())) (yir a0):=zkS (p:=fun (n:Bool)=>((n,()),())) (zkx (p:=fun (n:Bool)=>((n,()),())) (zkx (p:=fun (n:Bool)=>((n,()),())) (zkx (p:=fun (n:Bool)=>((n,()),())) rfl rfl) rfl) rfl)
theorem yTG:ConOk Tryz.prog 239 yNl:=(yOS).mono (fun x r _ h=>(yQJ x.1).trans h)
abbrev yT3:dN:=(0,0,[])
def yTL (r:dN):List Int:=bif yir r then 21322::r.1::r.2.1::(r.2.2.length:Int)::r.2.2 else []
def yTi (l:List Int):dN:=(nth l 1 0,nth l 2 0,l.drop 4)
def yUM (l:List Int):dN×Bool:=bif leb 4 (l.length:Int)&&(nth l 0 0==21322&&(nth l 3 0==(l.length:Int) - 4&&yir (yTi l))) then (yTi l,true) else (yT3,false)
theorem yUq {r:dN}:yir r=true↔(0≤r.1∧r.1≤60000)∧(0≤r.2.1∧r.2.1≤7)∧(2≤(r.2.2.length:Int)∧(r.2.2.length:Int)≤4)∧r.2.2.all isW=true:=by
 unfold yir
 simp only [yue,← yxy]
 cases ya r.1 0 60000<;>cases ya r.2.1 0 7<;>cases ya (r.2.2.length:Int) 2 4<;>simp
def yMT (r:dN) (a:dA) (i:Nat):dA:=ynV a i (yt5 r.1) (yTL r)
def yEs (a:dA) (r:dN):dA:=ydx ((List.range a.2.2.1.length).foldl (yMT r) a)
theorem yMU (r:dN) (a:dA) (i:Nat):(yMT r a i).2.2.1.length=a.2.2.1.length:=yA7 _ _ _ _
theorem yTY (r:dN) {a:dA} (i:Nat) (h:yu a=true):yMT r a i=a:=yR5 h _ _ _
theorem yUK (a:dA) (r:dN):(yEs a r).2.2.1.length=a.2.2.1.length:=(yxV _).trans (ypz (yMU r) _ _)
theorem yS7 (a:dA) (r:dN):yaL (yEs a r)=yaL a:=(yzB _).trans (ytn (one:=yMT r) (fun _ _=>yJj _ _ _ _) _ _)
theorem yEg {one:dA→Nat→dA} {d:List dW} (hl: ∀ a i,(one a i).2.2.1.length=a.2.2.1.length) (ho: ∀ a i,yeC d a→i < a.2.2.1.length→yeC d (one a i)): ∀ (n:Nat) (a:dA),n≤a.2.2.1.length→yeC d a→yeC d ((List.range n).foldl one a)
 | 0,_,_,h=>h
 | n+1,a,hn,h=>by
  rw [List.range_succ,List.foldl_append]
  exact ho _ _ (yEg hl ho n a (by omega) h) (by rw [ypz hl]; exact hn)
theorem yUz {d:List dW} {a:dA} (r:dN) (h:yeC d a):yeC d (yEs a r):=ySP (yEg (yMU r) (fun _ _ h hi=>yRQ h (zkO hi)) _ a (Nat.le_refl _) h)
def yKg (p N x:Int) (data:List Int) (i:Int):Int:=bif i==p then x else nth data ((i - p - 1+N).tmod N) 0
def yp7 (p N s:Int) (data:List Int) (a:dA) (i:Nat):dA:=bif yeV a i s then ynV a i (yw6 s) [yKg p N (ysP data) data i] else a
def yvW (a:dA) (s:Int) (data:List Int):dA:=(List.range a.2.2.1.length).foldl (yp7 (yA a.2.1 s) a.2.1.1 s data) a
theorem yGF (p N s:Int) (data:List Int) (a:dA) (i:Nat):(yp7 p N s data a i).2.2.1.length=a.2.2.1.length:=by
 unfold yp7; cases yeV a i s
 ·rfl
 ·exact yA7 _ _ _ _
theorem yTH (p N s:Int) (data:List Int) {a:dA} (i:Nat) (h:yu a=true):yp7 p N s data a i=a:=by
 unfold yp7; cases yeV a i s
 ·rfl
 ·exact yR5 h _ _ _
theorem yRi (p N s:Int) (data:List Int) (a:dA) (i:Nat):yaL (yp7 p N s data a i)=yaL a:=by
 unfold yp7; cases yeV a i s
 ·rfl
 ·exact yJj _ _ _ _
theorem yUu (a:dA) (s:Int) (data:List Int):(yvW a s data).2.2.1.length=a.2.2.1.length:=ypz (yGF _ _ _ _) _ _
theorem ySE (a:dA) (s:Int) (data:List Int):yaL (yvW a s data)=yaL a:=ytn (yRi _ _ _ _) _ _
theorem yUp {d:List dW} {a:dA} (s:Int) (data:List Int) (h:yeC d a):yeC d (yvW a s data):=yEg (yGF _ _ _ _) (fun a i h hi=>by
 unfold yp7; cases yeV a i s
 ·exact h
 ·exact yRQ h (zkO hi)) _ a (Nat.le_refl _) h
theorem yUR {N i p:Int} (h:3≤N∧N≤5) (hi:0≤i∧i < N) (hp:0≤p∧p≤N - 1) (hne:i≠p):0≤(i - p - 1+N).tmod N∧(i - p - 1+N).tmod N < N - 1:=by
 rw [Int.tmod_eq_emod_of_nonneg (by omega)]
 have:N=3∨N=4∨N=5:=by omega
 rcases this with rfl | rfl | rfl<;>omega
theorem yUi {N p x:Int} {data:List Int} (h:3≤N∧N≤5) (hp:0≤p∧p≤N - 1) (hd:(data.length:Int)=N - 1) :
  (List.range data.length).foldl (fun l (i:Nat)=>l.set ((p+1+i).tmod N).toNat (nth data i 0)) ((List.replicate N.toNat 0).set p.toNat x)=(List.range N.toNat).map (fun (i:Nat)=>yKg p N x data i):=by
 have:N=3∨N=4∨N=5:=by omega
 rcases this with rfl | rfl | rfl
 ·match data,hd with
  | [a,b],_ =>
   have:p=0∨p=1∨p=2:=by omega
   rcases this with rfl | rfl | rfl<;>simp [yKg,nth,List.range_succ,List.replicate_succ]
  | [],hd=>simp at hd
  | [_],hd=>simp at hd
  | _::_::_::_,hd=>simp only [List.length_cons]at hd; omega
 ·match data,hd with
  | [a,b,c],_ =>
   have:p=0∨p=1∨p=2∨p=3:=by omega
   rcases this with rfl | rfl | rfl | rfl<;>simp [yKg,nth,List.range_succ,List.replicate_succ]
  | [],hd=>simp at hd
  | [_],hd=>simp at hd
  | [_,_],hd=>simp at hd
  | _::_::_::_::_,hd=>simp only [List.length_cons]at hd; omega
 ·match data,hd with
  | [a,b,c,d],_ =>
   have:p=0∨p=1∨p=2∨p=3∨p=4:=by omega
   rcases this with rfl | rfl | rfl | rfl | rfl<;>simp [yKg,nth,List.range_succ,List.replicate_succ]
  | [],hd=>simp at hd
  | [_],hd=>simp at hd
  | [_,_],hd=>simp at hd
  | [_,_,_],hd=>simp at hd
  | _::_::_::_::_::_,hd=>simp only [List.length_cons]at hd; omega
def ygL (a:dA):dA:=bif leb 4 (IntKind.i64.wrap (a.2.2.2.2.2.1 - a.2.2.2.2.2.2.1)) then yao a else a
def yEu (a:dA) (s:Int) (d:List Int):Int×dA :=
 bif yu (ygL a) then (6,ygL a) else
 bif yu (yEs (ygL a) ((ygL a).2.2.2.2.2.1,s,d)) then (6,yEs (ygL a) ((ygL a).2.2.2.2.2.1,s,d)) else
 (bif yu (yvW (yMW (yEs (ygL a) ((ygL a).2.2.2.2.2.1,s,d))) s d) then 6 else 0,yvW (yMW (yEs (ygL a) ((ygL a).2.2.2.2.2.1,s,d))) s d)
theorem ySD (a:dA):(yao a).2.1=a.2.1:=by
 unfold yao
 cases yu (ydx a)
 ·exact (yG9 (ySJ (yEt (ydx a)))).trans (show (ydx a).2.1=a.2.1 from yG9 (yzB a))
 ·exact yG9 (yzB a)
theorem yUE (a:dA):(ygL a).2.1=a.2.1:=by
 unfold ygL
 cases leb 4 (IntKind.i64.wrap (a.2.2.2.2.2.1 - a.2.2.2.2.2.2.1))
 ·rfl
 ·exact ySD a
theorem yUF (a:dA):(ygL a).2.2.1.length=a.2.2.1.length:=by
 unfold ygL
 cases leb 4 (IntKind.i64.wrap (a.2.2.2.2.2.1 - a.2.2.2.2.2.2.1))
 ·rfl
 ·exact yy2 a
def yEw (l:List dW) (k:Nat):List dW:=l.take k++l.drop (k+1)
def yUL (a:dA) (s:Int):Int×dA :=
 bif ltb (yN a.2.2.2.2.2.2.2.2.1 s) 0 then (0,a) else
 bif yfx a s (nth a.2.2.2.2.2.2.2.2.1 (yN a.2.2.2.2.2.2.2.2.1 s) (0,[])).2 !=0 then (yfx a s (nth a.2.2.2.2.2.2.2.2.1 (yN a.2.2.2.2.2.2.2.2.1 s) (0,[])).2,a) else
 bif (yEu a s (nth a.2.2.2.2.2.2.2.2.1 (yN a.2.2.2.2.2.2.2.2.1 s) (0,[])).2).1==0 then
 (0,yJz (yEu a s (nth a.2.2.2.2.2.2.2.2.1 (yN a.2.2.2.2.2.2.2.2.1 s) (0,[])).2).2 (yEw a.2.2.2.2.2.2.2.2.1 (yN a.2.2.2.2.2.2.2.2.1 s).toNat))
 else yEu a s (nth a.2.2.2.2.2.2.2.2.1 (yN a.2.2.2.2.2.2.2.2.1 s) (0,[])).2
theorem yUj {a:dA} {s:Int} {d:List Int} (h:yfx a s d=0):yI a=true∧(d.length:Int)=a.2.1.1 - 1∧d.all isW=true∧yu a=false∧yaO a.2.1 s=true∧a.2.2.2.2.2.2.2.2.2.2.2=false∧a.2.2.2.2.2.1 < 60000∧a.2.2.2.2.2.2.2.1 < 59990:=by
 unfold yfx at h
 simp only [yb3,yue,ydr]at h
 cases ha:yI a
 ·rw [ha]at h; exact absurd (show (1:Int)=0 from h) (by decide)
 have hg:=yo.1 (ycY ha)
 rw [ha,wr (show -9223372036854775808≤a.2.1.1 - 1 by omega) (by omega),wr (show -9223372036854775808≤a.2.1.2 - 1 by omega) (by omega)] at h
 cases hl:((d.length:Int) !=a.2.1.1 - 1)
 ·cases hw:d.all isW
  ·rw [hl,hw]at h; exact absurd (show (1:Int)=0 from h) (by decide)
  cases hd:a.2.2.2.2.2.2.2.2.2.2.1
  ·cases hs:(leb 0 s&&leb s (a.2.1.2 - 1))
   ·rw [hl,hw,hd,hs]at h; exact absurd (show (2:Int)=0 from h) (by decide)
   cases hb:a.2.2.2.2.2.2.2.2.2.2.2
   ·cases h6:leb 60000 a.2.2.2.2.2.1
    ·cases h7:leb 59990 a.2.2.2.2.2.2.2.1
     ·have e6: ¬ (60000≤a.2.2.2.2.2.1):=fun g=>by rw [zk0 g]at h6; cases h6
      have e7: ¬ (59990≤a.2.2.2.2.2.2.2.1):=fun g=>by rw [zk0 g]at h7; cases h7
      exact ⟨rfl,bne_eq_false_iff_eq.1 hl,rfl,hd,by unfold yaO; rw [ycY ha,hs]; rfl,rfl,by omega,by omega⟩
     ·rw [hl,hw,hd,hs,hb,h6,h7]at h; exact absurd (show (7:Int)=0 from h) (by decide)
    ·rw [hl,hw,hd,hs,hb,h6]at h; exact absurd (show (7:Int)=0 from h) (by decide)
   ·rw [hl,hw,hd,hs,hb]at h; exact absurd (show (5:Int)=0 from h) (by decide)
  ·rw [hl,hw,hd]at h; exact absurd (show (6:Int)=0 from h) (by decide)
 ·rw [hl]at h; exact absurd (show (1:Int)=0 from h) (by decide)
theorem yPw (a:dA):(ygL a).2.2.2.2.2.2.2.2.1=a.2.2.2.2.2.2.2.2.1:=by
 unfold ygL
 cases leb 4 (IntKind.i64.wrap (a.2.2.2.2.2.1 - a.2.2.2.2.2.2.1))
 ·rfl
 ·exact ysM a
theorem ySj (a:dA):(yMW a).2.2.2.2.2.2.2.2.1=a.2.2.2.2.2.2.2.2.1:=rfl
theorem yT0 (a:dA) (s:Int) (d:List Int):(yEu a s d).2.2.2.2.2.2.2.2.2.1=a.2.2.2.2.2.2.2.2.1:=by
 unfold yEu
 have h2:=(yKf (yS7 (ygL a) ((ygL a).2.2.2.2.2.1,s,d))).trans (yPw a)
 generalize yEs (ygL a) ((ygL a).2.2.2.2.2.1,s,d)=R at h2 ⊢
 have h3:=(yKf (ySE (yMW R) s d)).trans ((ySj R).trans h2)
 generalize yvW (yMW R) s d=Q at h3 ⊢
 cases yu (ygL a)
 ·cases yu R
  ·exact h3
  ·exact h2
 ·exact yPw a
theorem yUl {l:List dW} {k:Int} (h0:0≤k) (h1:k < (l.length:Int)):(([]:List dW)++((l.drop (0:Int).toNat).take (k - 0).toNat))++((l.drop (k+1).toNat).take ((l.length:Int) - (k+1)).toNat)=yEw l k.toNat:=by
 unfold yEw
 rw [List.nil_append,show (0:Int).toNat=0 from rfl,List.drop_zero,Int.sub_zero,show (k+1).toNat=k.toNat+1 by omega,List.take_of_length_le (l:=l.drop (k.toNat+1)) (by rw [List.length_drop]; omega)]
def yKz (g:dG) (e:dW):Prop:=(0≤e.1∧e.1≤g.2 - 1)∧(e.2.length:Int)=g.1 - 1∧e.2.all isW=true
theorem yp8 {g:dG} {l:List dW}:yar g l=true↔(∀ e∈l,yKz g e)∧l.Pairwise (fun x y=>x.1 < y.1):=by
 have bad: ∀ i,yfu g l i=false↔yKz g (nth l i (0,[]))∧(0 < i→(nth l ((i - 1:Nat):Int) (0,[])).1 < (nth l i (0,[])).1):=by
  intro i
  unfold yfu yKz
  simp only [Bool.or_eq_false_iff,Bool.not_eq_false',bne_eq_false_iff_eq,Bool.and_eq_true,Bool.and_eq_false_iff,decide_eq_false_iff_not,zjQ]
  constructor
  ·rintro ⟨h1,h2,h3,h4⟩
   refine ⟨⟨h1,h2,h3⟩,fun h0=> ?_⟩
   rcases h4 with h4 | h4
   ·exact absurd h0 h4
   ·have:=mt zk0 (by rw [h4]; simp: ¬ leb (nth l i (0,[])).1 (nth l ((i - 1:Nat):Int) (0,[])).1=true)
    omega
  ·rintro ⟨⟨h1,h2,h3⟩,h4⟩
   refine ⟨h1,h2,h3,?_⟩
   by_cases h0:0 < i
   ·exact .inr (zkZ (by have:=h4 h0; omega))
   ·exact .inl h0
 unfold yar
 simp only [Bool.not_eq_true',List.any_eq_false,List.mem_range,Bool.not_eq_true,bad]
 constructor
 ·intro h
  refine ⟨fun e he=> ?_,?_⟩
  ·obtain ⟨i,hi,rfl⟩:=List.getElem_of_mem he
   have:=(h i hi).1
   rwa [zjW,zcq hi]at this
  ·rw [List.pairwise_iff_getElem]
   have step: ∀ (d i:Nat) (hi:i < l.length) (hj:i+d+1 < l.length),l[i].1 < l[i+d+1].1:=by
    intro d
    induction d with
    | zero =>
     intro i hi hj
     have:=(h (i+1) hj).2 (by omega)
     rwa [Nat.add_sub_cancel,zjW,zjW,zcq hi,zcq hj]at this
    | succ d ih =>
     intro i hi hj
     have h1:=ih i hi (by omega)
     have:=(h (i+d+1+1) hj).2 (by omega)
     rw [Nat.add_sub_cancel,zjW,zjW,zcq (show i+d+1 < l.length by omega),zcq (show i+d+1+1 < l.length from hj)] at this
     exact Int.lt_trans h1 this
   intro i j hi hj hij
   have:=step (j - i - 1) i hi (by omega)
   have e:i+(j - i - 1)+1=j:=by omega
   simp only [e]at this
   exact this
 ·rintro ⟨h1,h2⟩ i hi
  rw [List.pairwise_iff_getElem]at h2
  refine ⟨by rw [zjW,zcq hi]; exact h1 _ (List.getElem_mem hi),fun h0=> ?_⟩
  rw [zjW,zjW,zcq hi,zcq (show i - 1 < l.length by omega)]
  exact h2 (i - 1) i (by omega) hi (by omega)
theorem yUm {g:dG} {l:List dW} (k:Nat) (h:yar g l=true):yar g (yEw l k)=true:=by
 rw [yp8]at h ⊢
 have hs:(yEw l k).Sublist l:=by
  unfold yEw
  have:(l.take k++l.drop (k+1)).Sublist (l.take k++l.drop k):=List.Sublist.append_left (by rw [← List.drop_drop]; exact List.drop_sublist _ _) _
  rwa [List.take_append_drop]at this
 exact ⟨fun e he=>h.1 e (hs.subset he),h.2.sublist hs⟩
theorem yR3 (e:dW): ∀ (l acc:List dW),l.foldl (yba e) (true,acc)=(true,acc++l.filter (fun x=>x.1 !=e.1))
 | [],acc=>by simp
 | x::t,acc=>by
  rw [List.foldl_cons]
  have:yba e (true,acc) x=(true,acc++(bif x.1 !=e.1 then [x] else [])):=rfl
  rw [this,yR3 e t,List.filter_cons]
  cases x.1 !=e.1<;>simp
theorem yPD {e:dW} {l:List dW} (h:l.Pairwise (fun x y=>x.1 < y.1)):yxG l e=l.filter (fun x=>ltb x.1 e.1)++e::l.filter (fun x=>ltb e.1 x.1):=by
 have: ∀ (l acc:List dW),l.Pairwise (fun x y=>x.1 < y.1)→(bif (l.foldl (yba e) (false,acc)).1 then (l.foldl (yba e) (false,acc)).2 else (l.foldl (yba e) (false,acc)).2++ [e])=acc++(l.filter (fun x=>ltb x.1 e.1)++e::l.filter (fun x=>ltb e.1 x.1)):=by
  intro l
  induction l with
  | nil=>intro acc _; simp
  | cons x t ih =>
   intro acc h
   obtain ⟨hx,ht⟩:=List.pairwise_cons.1 h
   rw [List.foldl_cons]
   by_cases hle:e.1≤x.1
   ·have h1:yba e (false,acc) x=(true,(acc++ [e])++(bif x.1 !=e.1 then [x] else [])):=by
     unfold yba; rw [zk0 hle]; rfl
    have h2:t.filter (fun x=>x.1 !=e.1)=t:=List.filter_eq_self.2 (fun y hy=>bne_iff_ne.2 (by have:=hx y hy; omega))
    have h3:t.filter (fun x=>ltb x.1 e.1)= []:=List.filter_eq_nil_iff.2 (fun y hy=>by rw [zkm (by have:=hx y hy; omega)]; simp)
    have h4:t.filter (fun x=>ltb e.1 x.1)=t:=List.filter_eq_self.2 (fun y hy=>zjI (by have:=hx y hy; omega))
    rw [h1,yR3,h2,List.filter_cons,List.filter_cons,h3,h4,zkm (show e.1≤x.1 by omega)]
    by_cases he:x.1=e.1
    ·rw [show (x.1 !=e.1)=false from bne_eq_false_iff_eq.2 he,zkm (show x.1≤e.1 by omega)]; simp
    ·rw [show (x.1 !=e.1)=true from bne_iff_ne.2 he,zjI (show e.1 < x.1 by omega)]; simp
   ·have h1:yba e (false,acc) x=(false,acc++ [x]):=by
     unfold yba; rw [zkZ (show x.1 < e.1 by omega),show (x.1 !=e.1)=true from bne_iff_ne.2 (by omega)]; rfl
    rw [h1,ih _ ht,List.filter_cons,List.filter_cons,zjI (show x.1 < e.1 by omega),zkm (show x.1≤e.1 by omega)]
    simp
 have:=this l [] h
 rw [List.nil_append]at this
 exact this
theorem yUn {g:dG} {l:List dW} {e:dW} (h:yar g l=true) (he:yKz g e):yar g (yxG l e)=true:=by
 rw [yp8]at h ⊢
 rw [yPD h.2]
 refine ⟨fun x hx=> ?_,?_⟩
 ·rcases List.mem_append.1 hx with h1 | h1
  ·exact h.1 x (List.mem_filter.1 h1).1
  ·rcases List.mem_cons.1 h1 with rfl | h1
   ·exact he
   ·exact h.1 x (List.mem_filter.1 h1).1
 ·rw [List.pairwise_append,List.pairwise_cons]
  refine ⟨h.2.filter _,⟨fun y hy=>zjT.1 (List.mem_filter.1 hy).2,h.2.filter _⟩,fun x hx y hy=> ?_⟩
  have h1:=zjT.1 (List.mem_filter.1 hx).2
  rcases List.mem_cons.1 hy with rfl | hy
  ·exact h1
  ·exact Int.lt_trans h1 (zjT.1 (List.mem_filter.1 hy).2)
theorem yDp {g:dG} {l:List dW} (h:yar g l=true) (hg:yd g=true):l.length≤8:=by
 rw [yp8]at h
 have hg:=yo.1 hg
 have:=yNj (l:=l.map (fun e=>e.1)) (lo:=0) (n:=g.2) (by rw [List.pairwise_map]; exact h.2) (fun x hx=>by
  obtain ⟨e,he,rfl⟩:=List.mem_map.1 hx
  have:=(h.1 e he).1; omega) (by omega)
 rw [List.length_map]at this
 omega
def yme (l:List dW) (s:Int):Int:=bif leb 0 (yJ (fun x:dW=> !ltb x.1 s) l) then yJ (fun x:dW=> !ltb x.1 s) l else (l.length:Int)
def yR1 (l:List dW) (e:dW):List dW:=bif ltb (yme l e.1) (l.length:Int)&&((nth l (yme l e.1) (0,[])).1==e.1) then l.set (yme l e.1).toNat ((nth l (yme l e.1) (0,[])).1,e.2) else l.take (yme l e.1).toNat++ [e]++l.drop (yme l e.1).toNat
theorem yR0 (x:dW) (t:List dW) (s:Int):yme (x::t) s=bif ltb x.1 s then yme t s+1 else 0:=by
 unfold yme
 rw [yvR]
 cases ltb x.1 s
 ·rfl
 ·simp only [Bool.not_true,cond_false,cond_true,List.length_cons]
  cases hl:leb 0 (yJ (fun x:dW=> !ltb x.1 s) t)
  ·rfl
  ·have:=zjQ.1 hl
   simp only [cond_true]
   rw [zk0 (show 0≤yJ (fun x:dW=> !ltb x.1 s) t+1 by omega)]; rfl
theorem yUJ (s:Int):yme [] s=0:=rfl
theorem ySQ (l:List dW) (s:Int):0≤yme l s∧yme l s≤(l.length:Int):=by
 induction l with
 | nil=>exact ⟨Int.le_refl 0,Int.le_refl 0⟩
 | cons x t ih =>
  rw [yR0,List.length_cons]
  cases ltb x.1 s
  ·exact ⟨Int.le_refl 0,by simp only [cond_false]; omega⟩
  ·simp only [cond_true]; omega
theorem yPo {e:dW}: ∀ {l:List dW},l.Pairwise (fun x y=>x.1 < y.1)→yR1 l e=l.filter (fun x=>ltb x.1 e.1)++e::l.filter (fun x=>ltb e.1 x.1)
 | [],_=>rfl
 | x::t,h=>by
  obtain ⟨hx,ht⟩:=List.pairwise_cons.1 h
  have ih:=yPo (e:=e) ht
  unfold yR1 at ih ⊢
  rw [yR0]
  cases hlt:ltb x.1 e.1
  ·have hle:=zkU hlt
   have h3:t.filter (fun x=>ltb x.1 e.1)= []:=List.filter_eq_nil_iff.2 (fun y hy=>by rw [zkm (by have:=hx y hy; omega)]; simp)
   have h4:t.filter (fun x=>ltb e.1 x.1)=t:=List.filter_eq_self.2 (fun y hy=>zjI (by have:=hx y hy; omega))
   rw [List.filter_cons,List.filter_cons,h3,h4,hlt]
   simp only [cond_false,List.length_cons,zjI (show (0:Int) < ((t.length+1:Nat):Int) by omega),Bool.true_and]
   show (bif (x.1==e.1) then (x.1,e.2)::t else e::x::t)=_
   cases he:(x.1==e.1)
   ·have:=beq_eq_false_iff_ne.1 he
    rw [zjI (show e.1 < x.1 by omega)]; rfl
   ·have:=beq_iff_eq.1 he
    rw [zkm (show x.1≤e.1 by omega),this]; rfl
  ·have hl:=zjT.1 hlt
   have hp:=(ySQ t e.1).1
   rw [List.filter_cons,List.filter_cons,hlt,zkm (show x.1≤e.1 by omega)]
   simp only [if_true,cond_true,Bool.false_eq_true,if_false,List.cons_append]
   rw [← ih]
   obtain ⟨k,hk⟩: ∃ k:Nat,yme t e.1=(k:Int):=⟨(yme t e.1).toNat,by omega⟩
   rw [hk,show ((k:Int)+1)=((k+1:Nat):Int) by omega,List.length_cons,show ltb ((k+1:Nat):Int) ((t.length+1:Nat):Int)=ltb (k:Int) (t.length:Int) by
    rw [Bool.eq_iff_iff,zjT,zjT]; omega]
   simp only [Int.toNat_natCast,zjW,List.getD_cons_succ,List.set_cons_succ,List.take_succ_cons,List.drop_succ_cons,List.cons_append]
   cases ltb (k:Int) (t.length:Int)&&((t.getD k (0,[])).1==e.1)<;>rfl
theorem yyO {a:dA} (h:yI a=true):yar a.2.1 a.2.2.2.2.2.2.2.2.1=true:=by
 simp only [yI,Bool.and_eq_true]at h; exact h.2.2.2.1
theorem yR2 {a:dA} {e:dW} (h:yI a=true):yxG a.2.2.2.2.2.2.2.2.1 e=yR1 a.2.2.2.2.2.2.2.2.1 e:=by
 have h2:=(yp8.1 (yyO h)).2
 rw [yPD h2,yPo h2]
def yxI (a:dA) (b n:Int):dA×Int:=bif yan a b !=0 then (a,yan a b) else bif isW n then ((yBa a b n).2,(yBa a b n).1) else (a,3)
end
abbrev ye2:List Par:= [.kp tWs (.ow (.pr .fz (.ow .fz))),.rd tI,.kp tWs (.ow (.pr .fz (.ow .fz)))]
abbrev ye7:List OT:= [⟨false,tWs,(.ow (.pr .fz (.ow .fz)))⟩]
end
end Go.Tf
namespace Go.Proofs
noncomputable section
open Go.Tf Go.RowKit Go.Lib
set_option synthInstance.maxHeartbeats 400000
set_option synthInstance.maxSize 10000
set_option linter.unusedVariables false
set_option linter.unusedSimpArgs false
set_option maxRecDepth 100000
theorem yTZ {P:Program} (w:World) (t e ty:TypeId) (z:Value) (ht:P.underlying t=some (.slice e)) (hv: ∀ w,(zeroValue e).run P w= .ok z w) (zs:List Value) (b o n c:Nat) (hn:0 < n)
  (hzs:(Builtin.zeroCells z.cells n).toList=zs) (h1: ∀ v∈zs,v.oneCell'=true)
  (hc: ∀ j,j < zs.length→(w.cell? ⟨b,o+j,none⟩).isSome=true) (hf: ∀ j,j < zs.length→w.frozen? ⟨b,o+j,none⟩=false) :
  (Builtin.clear_ #[t] ty #[.slice (some ⟨b,o,none⟩) n c]).run P w= .ok (.tuple #[]) (w.setCells b o zs):=by
 have hst:=run_storeCells_cells (P:=P) b o zs 0 w (by simpa using hc) (by simpa using hf) h1
 simp only [Nat.add_zero]at hst
 obtain ⟨m,rfl⟩: ∃ m,n=m+1:=⟨n - 1,by omega⟩
 simp [Builtin.clear_,run_underlying ht,hv,hzs,hst]
theorem _root_.Go.Tf.isSome_setCells (b:Nat) (vs:List Value) (o:Nat) (w:World) (h: ∀ j,j < vs.length→(w.cell? ⟨b,o+j,none⟩).isSome=true) (k:Nat) (hk:(w.cell? ⟨b,k,none⟩).isSome=true):((w.setCells b o vs).cell? ⟨b,k,none⟩).isSome=true:=by
 by_cases hin:o≤k∧k < o+vs.length
 ·have:=World.cell?_setCells_in b vs o w h (k - o) (by omega)
  rw [show o+(k - o)=k by omega]at this
  rw [this]; rfl
 ·rw [World.cell?_setCells_out b vs o w ⟨b,k,none⟩ (fun _ _=>by show k < o∨o+vs.length≤k; omega)]
  exact hk
def Hdd (p:Prop):Prop:=p
theorem Hdd.out {p:Prop} (h:Hdd p):p:=h
theorem yvT {P:Program} (w:World) (dT sT ty elem:TypeId) (k b o dLen dCap:Nat) (a:Addr) (sLen sCap:Nat) (cs:List Value)
  (hu:P.underlying dT=some (.slice elem)) (hs:(P.info? elem).map (·.size)=some k) (hn:cs.length=Nat.min sLen dLen * k)
  (hsrc: ∀ j v,cs[j]? =some v→w.cell? (a.add j)=some v) (hc: ∀ j,j < cs.length→(w.cell? ⟨b,o+j,none⟩).isSome=true) (hf: ∀ j,j < cs.length→w.frozen? ⟨b,o+j,none⟩=false) (h1: ∀ v∈cs,v.oneCell'=true) :
  (Builtin.copy_ #[dT,sT] ty #[.slice (some ⟨b,o,none⟩) dLen dCap,.slice (some a) sLen sCap]).run P w= .ok (goInt (Nat.min sLen dLen)) (w.setCells b o cs):=by
 have hl:=run_loadCells_list (P:=P) w a cs hsrc
 have hst:=run_storeCells_cells (P:=P) b o cs 0 w (by simpa using hc) (by simpa using hf) h1
 cases hq:P.info? elem with
 | none=>simp [hq]at hs
 | some i =>
  have hi:i.size=k:=by simpa [hq] using hs
  simp [Builtin.copy_,run_underlying hu,Builtin.lenOf,Builtin.firstCells,sizeOf,typeInfo,hq,hi,← hn,hl,hst]
set_option maxHeartbeats 4000000 in
set_option maxRecDepth 100000 in
theorem ySq (w:World) (b off n c:Nat) (va:Option Addr) (vc:Nat) (r:Value) (w':World) (hnc:n≤c)
  (hr:(Builtin.append_ #[27,27] 27 #[.slice (some ⟨b,off,none⟩) n c,.slice va 1 vc]).run Tryz.prog w= .ok r w') :
  Calls Tryz.prog 180 #[.slice (some ⟨b,off,none⟩) n c,.int .i64 n,.slice va 1 vc] w fun e w2=>e= .returned r∧w2=w':=by
 have hz1: ¬ ((1:Int)=0):=by omega
 go_enter Tryz.func180,Tryz.ntmps180
 go_wp2_with (at_builtin; refine Lib.wpList_append_run _ rfl _ _ _ _ rfl _ _ rfl rfl _ _ hr ?_)
 all_goals (go_ret; exact ⟨rfl,rfl⟩)
set_option maxHeartbeats 4000000 in
set_option maxRecDepth 100000 in
theorem yTu (w:World) (va:Option Addr) (vc:Nat) (r:Value) (w':World)
  (hr:(Builtin.append_ #[27,27] 27 #[.slice none 0 0,.slice va 1 vc]).run Tryz.prog w= .ok r w') :
  Calls Tryz.prog 180 #[.slice none 0 0,.int .i64 0,.slice va 1 vc] w fun e w2=>e= .returned r∧w2=w':=by
 have hz1: ¬ ((1:Int)=0):=by omega
 go_enter Tryz.func180,Tryz.ntmps180
 go_wp2_with (at_builtin; refine Lib.wpList_append_run _ rfl _ _ _ _ rfl _ _ rfl rfl _ _ hr ?_)
 all_goals (go_ret; exact ⟨rfl,rfl⟩)
set_option maxHeartbeats 4000000 in
set_option maxRecDepth 100000 in
theorem ySH (w:World) (b off n c i vb voff vc:Nat) (cs vs:List Value) (hi:i < n) (hroom:n+1≤c) (hn63:n < 9223372036854775807) (hvb:vb≠b) (hund:Tryz.prog.underlying 27=some (.slice 129)) (hsz:(Tryz.prog.info? 129).map (·.size)=some 2) (hso: ∀ w,(Go.sizeOf 129).run Tryz.prog w= .ok 2 w)
  (hcl:cs.length=(n - i) * 2) (hvl:vs.length=2)
  (hcs:Hdd (∀ j v,cs[j]? =some v→w.cell? ⟨b,off+i * 2+j,none⟩=some v)) (hsp:Hdd (∀ j,j < (n+1) * 2→(w.cell? ⟨b,off+j,none⟩).isSome=true)) (hfz:Hdd (∀ j,j < (n+1) * 2→w.frozen? ⟨b,off+j,none⟩=false))
  (hvs:Hdd (∀ j v,vs[j]? =some v→w.cell? ⟨vb,voff+j,none⟩=some v)) (h1c:Hdd (∀ v∈cs,v.oneCell'=true)) (h1v:Hdd (∀ v∈vs,v.oneCell'=true))
  (tA tB:TypeId) (kA kB:Nat) (hsa:w.shape? vb=some (tA,kA)) (hsb:w.shape? b=some (tB,kB)) (hkB:kB≠0) (hfa:w.frozen? ⟨vb,voff,none⟩=false) (hfe:w.frozen? ⟨vb,kA,none⟩=false) :
  Calls Tryz.prog 180 #[.slice (some ⟨b,off,none⟩) n c,.int .i64 i,.slice (some ⟨vb,voff,none⟩) 1 vc] w fun e w' =>
   e= .returned (.slice (some ⟨b,off,none⟩) (n+1) c)∧w'=(w.drew.setCells b (off+(i+1) * 2) cs).setCells b (off+i * 2) vs:=by
 have yb:Tryz.prog.follows .mixedOrders=true:=by kernel_rfl
 have hz1: ¬ ((1:Int)=0):=by omega
 have hz2: ¬ ((i:Int)=(n:Int)):=by omega
 have hov: ∀ lb cb,(callFunc 244 #[.slice (some ⟨vb,voff,none⟩) 1 vc,.slice (some ⟨b,off+(i+1) * 2,none⟩) lb cb]).run Tryz.prog w= .ok (.value (.bool false)) w:=fun lb cb=>by
  rw [run_callFunc_extern Tryz.func244 (by kernel_rfl) (by kernel_rfl) (by kernel_rfl) (e:=Extern.SlicesOverlaps.overlaps #[27,27] #[4]) (by kernel_rfl),
   Lib.run_overlaps_apart w 27 4 129 hund 2 hso ⟨vb,voff,none⟩ ⟨b,off+(i+1) * 2,none⟩ 1 vc lb cb hvb tA tB kA kB hsa hsb hkB hfa hfe]
  rfl
 have hw1:IntKind.i64.wrap ((i:Int)+1)=(i:Int)+1:=by rw [IntKind.wrap_i64]; omega
 have hb1:(0:Int)≤(i:Int)+1:=by omega
 have hin:i≤n:=by omega
 have htn:((i:Int)+1).toNat=i+1:=by omega
 have hb2: ¬ (c=i+1):=by omega
 have hb3:(i:Int)≤(n:Int)+1:=by omega
 have hb4: ¬ (c=i):=by omega
 have hcp1: ∀ ty dc sc,(Builtin.copy_ #[27,27] ty #[.slice (some ⟨b,off+(i+1) * 2,none⟩) (n - i) dc,.slice (some ⟨b,off+i * 2,none⟩) (n+1 - i) sc]).run Tryz.prog w.drew= .ok (goInt (Nat.min (n+1 - i) (n - i))) (w.drew.setCells b (off+(i+1) * 2) cs):=fun ty dc sc =>
  yvT w.drew _ _ ty 129 2 b (off+(i+1) * 2) (n - i) dc ⟨b,off+i * 2,none⟩ (n+1 - i) sc cs hund hsz (by rw [hcl]; simp only [Nat.min_def]; split<;>omega)
   (fun j v hj=>by rw [zay]; exact hcs.out j v hj)
   (fun j hj=>by rw [Nat.add_assoc]; exact hsp.out _ (by omega)) (fun j hj=>by rw [Nat.add_assoc]; exact hfz.out _ (by omega)) h1c.out
 obtain ⟨W1,hW1⟩: ∃ W1,W1=w.drew.setCells b (off+(i+1) * 2) cs:=⟨_,rfl⟩
 have hsp1: ∀ k,k < (n+1) * 2→(W1.cell? ⟨b,off+k,none⟩).isSome=true:=fun k hk=>by
  rw [hW1]
  exact Tf.isSome_setCells b _ _ _ (fun j hj=>by rw [Nat.add_assoc]; exact hsp.out _ (by omega)) _ (hsp.out k hk)
 have hcp2: ∀ (W:World),(∀ x,W.cell? x=W1.cell? x)→(∀ x,W.frozen? x=W1.frozen? x)→ ∀ ty dc,(Builtin.copy_ #[27,27] ty #[.slice (some ⟨b,off+i * 2,none⟩) (n+1 - i) dc,.slice (some ⟨vb,voff,none⟩) 1 vc]).run Tryz.prog W= .ok (goInt (Nat.min 1 (n+1 - i))) (W.setCells b (off+i * 2) vs):=fun W hWc hWf ty dc =>
  yvT W _ _ ty 129 2 b (off+i * 2) (n+1 - i) dc ⟨vb,voff,none⟩ 1 vc vs hund hsz (by rw [hvl]; simp only [Nat.min_def]; split<;>omega)
   (fun j v hj=>by
    rw [zay,hWc,hW1,World.cell?_setCells_out b _ _ _ _ (fun h _=>absurd h hvb)]
    exact hvs.out j v hj)
   (fun j hj=>by rw [hWc,Nat.add_assoc]; exact hsp1 _ (by omega)) (fun j hj=>by rw [hWf,hW1,World.frozen?_setCells,Nat.add_assoc]; exact hfz.out _ (by omega)) h1v.out
 rw [← hW1]at hcp1
 clear hsp1
 go_enter Tryz.func180,Tryz.ntmps180
 go_wp2_with (simp only [hov])
 go_region_law_o (refine step_copy_runI rfl _ _ 27 27 rfl _ _ (by simp [Act.eval,Act.put]) (by simp [Act.eval,Act.put]) (hcp1 _ _ _) ?_)
 go_wp2_with (at_builtin; refine wpList_copy_runI _ rfl _ _ 27 27 rfl _ _ rfl rfl (hcp2 _ (fun _=>rfl) (fun _=>rfl) _ _) ?_)
 go_ret
 exact ⟨rfl,rfl⟩
set_option maxHeartbeats 4000000 in
set_option maxRecDepth 100000 in
theorem yS4 (w:World) (b off n c i vb voff vc:Nat) (pre cs vs:List Value) (hi:i < n) (hnc:n≤c) (hroom:c < n+1) (hbig:(n+1) * 32≤140737488355328) (hund:Tryz.prog.underlying 27=some (.slice 129)) (hun3:Tryz.prog.underlying 3=some (.int .i64)) (i0:TypeInfo) (hi0:Tryz.prog.info? 129=some i0) (z:Value) (hz0:i0.zero=some z) (hsz:i0.size=2) (hbz:i0.bytes=32) (hzc:z.cells.size=2)
  (hpl:pre.length=i * 2) (hcl:cs.length=(n - i) * 2) (hvl:vs.length=2) (hbw:b < w.heap.size) (hvw:vb < w.heap.size)
  (hpre:Hdd (∀ j v,pre[j]? =some v→w.cell? ⟨b,off+j,none⟩=some v)) (hcs:Hdd (∀ j v,cs[j]? =some v→w.cell? ⟨b,off+i * 2+j,none⟩=some v))
  (hvs:Hdd (∀ j v,vs[j]? =some v→w.cell? ⟨vb,voff+j,none⟩=some v)) (h1c:Hdd (∀ v∈cs,v.oneCell'=true)) (h1v:Hdd (∀ v∈vs,v.oneCell'=true)) :
  Calls Tryz.prog 180 #[.slice (some ⟨b,off,none⟩) n c,.int .i64 i,.slice (some ⟨vb,voff,none⟩) 1 vc] w fun e w' =>
   e= .returned (.slice (some ⟨w.heap.size,0,none⟩) (n+1) (grownCap w (n+1) c 129)) ∧
   w'=(((w.alloc (.cells (pre.toArray++Builtin.zeroCells z.cells (n+1 - i)++Builtin.zeroCells z.cells (grownCap w (n+1) c 129 - (n+1))) 129)).drew.setCells w.heap.size (i * 2) vs).drew).setCells w.heap.size ((i+1) * 2) cs:=by
 have yb:Tryz.prog.follows .mixedOrders=true:=by kernel_rfl
 have hz1: ¬ ((1:Int)=0):=by omega
 have hz2: ¬ ((i:Int)=(n:Int)):=by omega
 have hz3:(c:Int) < (n:Int)+1:=by omega
 have hszm:(Tryz.prog.info? 129).map (·.size)=some 2:=by rw [hi0]; simp [hsz]
 have hkk:(n:Int)+1 - (i:Int)=((n+1 - i:Nat):Int):=by omega
 have hik:i+(n+1 - i)=n+1:=by omega
 have hold:(Builtin.firstCells i0.size i (.slice (some ⟨b,off,none⟩) i c)).run Tryz.prog w.drew= .ok pre.toArray w.drew:=by
  have hl:=run_loadCells_list (P:=Tryz.prog) w.drew ⟨b,off,none⟩ pre (fun j v hj=>by rw [zay]; exact hpre.out j v hj)
  rw [hpl]at hl
  simp [Builtin.firstCells,hsz,hl]
 have hrz: ∀ ty,(Builtin.append_ #[27,3] ty #[.slice (some ⟨b,off,none⟩) i c,.int .i64 ((n:Int)+1 - (i:Int))]).run Tryz.prog w =
   .ok (.slice (some ⟨w.heap.size,0,none⟩) (n+1) (grownCap w (n+1) c 129)) (w.drew.alloc (.cells (pre.toArray++Builtin.zeroCells z.cells (n+1 - i)++Builtin.zeroCells z.cells (grownCap w (n+1) c 129 - (n+1))) 129)):=fun ty=>by
  have h:=Lib.run_append_grow_zeros w 27 3 ty 129 i0 z .i64 .i64 hund hun3 hi0 hz0 (some ⟨b,off,none⟩) i c pre hold (n+1 - i) (by omega) (by omega) (by omega) (by omega) (by rw [hbz]; omega) (by rw [hbz,hik]; exact growslice_fits hroom hbig)
  rw [hik]at h
  rw [hkk]
  exact h
 obtain ⟨G,hG⟩: ∃ G,G=grownCap w (n+1) c 129:=⟨_,rfl⟩
 obtain ⟨ROW,hROW⟩: ∃ ROW:Array Value,ROW=pre.toArray++Builtin.zeroCells z.cells (n+1 - i)++Builtin.zeroCells z.cells (G - (n+1)):=⟨_,rfl⟩
 rw [← hG]at hrz ⊢
 rw [← hROW]at hrz ⊢
 have hRl:(n+1) * 2≤ROW.size:=by
  rw [hROW,Array.size_append,Array.size_append,size_zeroCells,size_zeroCells,hzc,List.size_toArray,hpl]
  omega
 obtain ⟨W1,hW1⟩: ∃ W1,W1=w.drew.alloc (.cells ROW 129):=⟨_,rfl⟩
 rw [← hW1]at hrz
 have hN: ∀ j,j < (n+1) * 2→(W1.cell? ⟨w.heap.size,j,none⟩).isSome=true:=fun j hj=>by
  rw [hW1,World.cell?_alloc_at (w:=w.drew) ROW _ w.heap.size j rfl,Array.getElem?_eq_getElem (by omega)]; rfl
 have hNf: ∀ j,W1.frozen? ⟨w.heap.size,j,none⟩=false:=fun j=>by rw [hW1]; exact World.frozen?_alloc_at (w:=w.drew) ROW _ w.heap.size j rfl
 have hOb: ∀ j v,w.cell? ⟨b,j,none⟩=some v→W1.cell? ⟨b,j,none⟩=some v:=fun j v h=>by rw [hW1,World.cell?_alloc_past (w:=w.drew) _ b j hbw]; exact h
 have hOv: ∀ j v,w.cell? ⟨vb,j,none⟩=some v→W1.cell? ⟨vb,j,none⟩=some v:=fun j v h=>by rw [hW1,World.cell?_alloc_past (w:=w.drew) _ vb j hvw]; exact h
 have hcpA: ∀ (W:World),(∀ x,W.cell? x=W1.cell? x)→(∀ x,W.frozen? x=W1.frozen? x)→ ∀ ty dc,(Builtin.copy_ #[27,27] ty #[.slice (some ⟨w.heap.size,i * 2,none⟩) (n+1 - i) dc,.slice (some ⟨vb,voff,none⟩) 1 vc]).run Tryz.prog W= .ok (goInt (Nat.min 1 (n+1 - i))) (W.setCells w.heap.size (i * 2) vs):=fun W hWc hWf ty dc =>
  yvT W _ _ ty 129 2 w.heap.size (i * 2) (n+1 - i) dc ⟨vb,voff,none⟩ 1 vc vs hund hszm (by rw [hvl]; simp only [Nat.min_def]; split<;>omega)
   (fun j v hj=>by rw [zay,hWc]; exact hOv _ v (hvs.out j v hj))
   (fun j hj=>by rw [hWc]; exact hN _ (by omega)) (fun j hj=>by rw [hWf]; exact hNf _) h1v.out
 have hGn:n+1≤G:=by rw [hG]; exact grownCap_ge w _ _ _
 have hG63:G≤9223372036854775807:=by
  have:=grownCap_le_maxLen w (n+1) c 129 (by unfold maxLen; omega)
  rw [← hG]at this
  unfold maxLen at this
  omega
 have hGi: ¬ (G=i):=by omega
 have hGim: ¬ (G=i+1):=by omega
 have hci: ¬ (c=i):=by omega
 have hbN:b≠w.heap.size:=by omega
 have hcpB: ∀ (W:World),(∀ x,W.cell? x=(W1.setCells w.heap.size (i * 2) vs).cell? x)→(∀ x,W.frozen? x=(W1.setCells w.heap.size (i * 2) vs).frozen? x)→ ∀ ty dc sc,(Builtin.copy_ #[27,27] ty #[.slice (some ⟨w.heap.size,(i+1) * 2,none⟩) (n - i) dc,.slice (some ⟨b,off+i * 2,none⟩) (n - i) sc]).run Tryz.prog W= .ok (goInt (Nat.min (n - i) (n - i))) (W.setCells w.heap.size ((i+1) * 2) cs):=fun W hWc hWf ty dc sc =>
  yvT W _ _ ty 129 2 w.heap.size ((i+1) * 2) (n - i) dc ⟨b,off+i * 2,none⟩ (n - i) sc cs hund hszm (by rw [hcl]; simp only [Nat.min_def]; split<;>omega)
   (fun j v hj=>by
    rw [zay,hWc,World.cell?_setCells_out _ _ _ _ _ (fun h _=>absurd h hbN)]
    exact hOb _ v (hcs.out j v hj))
   (fun j hj=>by rw [hWc]; exact Tf.isSome_setCells _ _ _ _ (fun t ht=>hN _ (by omega)) _ (hN _ (by omega)))
   (fun j hj=>by rw [hWf,World.frozen?_setCells]; exact hNf _) h1c.out
 subst hW1
 have hE1: ∀ x,((w.alloc (.cells ROW 129)).drew).cell? x=(w.drew.alloc (.cells ROW 129)).cell? x:=fun x=>rfl
 have hE2: ∀ x,((w.alloc (.cells ROW 129)).drew).frozen? x=(w.drew.alloc (.cells ROW 129)).frozen? x:=fun x=>rfl
 have hF1: ∀ x,(((w.alloc (.cells ROW 129)).drew.setCells w.heap.size (i * 2) vs).drew).cell? x=((w.drew.alloc (.cells ROW 129)).setCells w.heap.size (i * 2) vs).cell? x:=fun x=>rfl
 have hF2: ∀ x,(((w.alloc (.cells ROW 129)).drew.setCells w.heap.size (i * 2) vs).drew).frozen? x=((w.drew.alloc (.cells ROW 129)).setCells w.heap.size (i * 2) vs).frozen? x:=fun x=>rfl
 have hw1:IntKind.i64.wrap ((i:Int)+1)=(i:Int)+1:=by rw [IntKind.wrap_i64]; omega
 have hb1:(0:Int)≤(i:Int)+1:=by omega
 have hin:i≤n:=by omega
 have htn:((i:Int)+1).toNat=i+1:=by omega
 have hb3:(i:Int)≤(n:Int):=by omega
 clear hkk hik hold hROW hG hRl
 go_enter Tryz.func180,Tryz.ntmps180
 go_wp2_with (first
  | (at_builtin; refine Lib.wpList_append_run _ rfl _ _ _ _ rfl _ _ rfl rfl _ _ (hrz _) ?_)
  | (at_builtin; refine wpList_copy_runI _ rfl _ _ 27 27 rfl _ _ rfl rfl (hcpA _ hE1 hE2 _ _) ?_)
  | (at_builtin; refine wpList_copy_runI _ rfl _ _ 27 27 rfl _ _ rfl rfl (hcpB _ (fun _=>rfl) (fun _=>rfl) _ _ _) ?_))
 go_region_law_o (refine step_copy_runI rfl _ _ 27 27 rfl (.slice (some ⟨w.heap.size,(i+1) * 2,none⟩) (n - i) (G - (i+1))) (.slice (some ⟨b,off+i * 2,none⟩) (n - i) (c - i)) (by simp [Act.eval,Act.put]) (by simp [Act.eval,Act.put]) (hcpB _ hF1 hF2 3 (G - (i+1)) (c - i)) ?_)
 go_wp2
 go_ret
 exact ⟨rfl,rfl⟩
end
end Go.Proofs
namespace Go.Tf
noncomputable section
open Go.Proofs
set_option synthInstance.maxHeartbeats 400000
set_option synthInstance.maxSize 10000
set_option linter.unusedVariables false
set_option linter.unusedSimpArgs false
set_option maxRecDepth 100000
abbrev aW:Ann:= .pr .fz (.ow .fz)
theorem yH1 {α:Type} {l:List α} {i j:Nat} (h:i=j):l[i]? =l[j]? :=h ▸ rfl
theorem yzs {b o n:Nat} {vs:List Value} {w:World} (hc:zd (hp w) b o n=some vs): ∀ j v,vs[j]? =some v→w.cell? ⟨b,o+j,none⟩=some v:=fun j v hj=>by
 have hl:=zal hc
 have hj2:=(List.getElem?_eq_some_iff.1 hj).1
 rw [zbG,← zX hc j (by omega)]; exact hj
theorem yTl {w:World} {b:Nat} {c:Array Value} {T:TypeId} (hb:hp w b=some (.cells c T (0,0))) {j:Nat} (hj:j < c.size):(w.cell? ⟨b,j,none⟩).isSome=true∧w.frozen? ⟨b,j,none⟩=false:=by
 refine ⟨by rw [zbG]; unfold zF; rw [hb]; simp [hj],?_⟩
 unfold World.frozen?
 have:w.heap[b]? =some (.cells c T (0,0)):=hb
 simp [this]
theorem yTI {w:World} {b:Nat} {c:Array Value} {T:TypeId} (hb:hp w b=some (.cells c T (0,0))) (j:Nat):w.frozen? ⟨b,j,none⟩=false:=by
 unfold World.frozen?
 have:w.heap[b]? =some (.cells c T (0,0)):=hb
 simp [this]
theorem yR7 {w:World} {b:Nat} {c:Array Value} {T:TypeId} (hb:hp w b=some (.cells c T (0,0))):w.shape? b=some (T,c.size):=by
 unfold World.shape?
 have:w.heap[b]? =some (.cells c T (0,0)):=hb
 simp [this]
theorem yTX {v:Value} (h:zM v):v.oneCell'=true:=zif h
theorem ySk {w:World} {b o:Nat} {c:Array Value} {T:TypeId} {v:Value} (hb:hp w b=some (.cells c T (0,0))) (ho:o < c.size):w.setCell ⟨b,o,none⟩ v=World.setBlk w b (c.setIfInBounds o v) T:=by
 have hb':w.heap[b]? =some (.cells c T (0,0)):=hb
 unfold World.setCell World.setBlk
 congr 1
 apply Array.ext_getElem?
 intro j
 rw [Array.getElem?_modify,Array.getElem?_setIfInBounds]
 by_cases hj:b=j
 ·subst hj
  have hlt2:b < w.heap.size:=(Array.getElem?_eq_some_iff.1 hb').1
  have hg:w.heap[b]=Obj.cells c T (0,0):=by rw [Array.getElem?_eq_getElem hlt2]at hb'; simpa using hb'
  simp [hlt2,hg]
 ·simp [hj]
theorem ymi {b:Nat} {T:TypeId}: ∀ (vs:List Value) (o:Nat) (w:World) (c:Array Value),hp w b=some (.cells c T (0,0))→o+vs.length≤c.size→w.setCells b o vs=World.setBlk w b (ze c o vs) T
 | [],o,w,c,hb,_=>by
  have hb':w.heap[b]? =some (.cells c T (0,0)):=hb
  show w=_
  unfold World.setBlk ze
  have:w.heap.setIfInBounds b (.cells c T (0,0))=w.heap:=by
   apply Array.ext_getElem?
   intro j
   rw [Array.getElem?_setIfInBounds]
   split
   ·subst_vars
    split
    ·exact hb'.symm
    ·rename_i hn; rw [Array.getElem?_eq_none (by omega)]
   ·rfl
  rw [this]
 | v::vs,o,w,c,hb,hl=>by
  simp only [List.length_cons]at hl
  have hsz:b < w.heap.size:=(Array.getElem?_eq_some_iff.1 (show w.heap[b]? =_ from hb)).1
  rw [World.setCells,ySk hb (by omega),ymi vs (o+1) _ (c.setIfInBounds o v) (za5 hsz) (by simp; omega)]
  show World.setBlk (World.setBlk w b (c.setIfInBounds o v) T) b (ze (c.setIfInBounds o v) (o+1) vs) T=World.setBlk w b (ze (c.setIfInBounds o v) (o+1) vs) T
  unfold World.setBlk
  simp
theorem yAZ {fp0 fpV:List (List Nat)} {i:Nat}:List.Perm ((fp0.take i++fpV)++fp0.drop i).flatten (fp0.flatten++fpV.flatten):=by
 have h:fp0.flatten=(fp0.take i).flatten++(fp0.drop i).flatten:=by rw [← List.flatten_append,List.take_append_drop]
 rw [List.flatten_append,List.flatten_append,h,List.append_assoc,List.append_assoc]
 exact List.Perm.append_left _ List.perm_append_comm
theorem yA0 {h h':Heap} {Z:Nat→Prop} {l:List dW} {x:dW} {vs0 vsV:List Value} {f0 fV:List (List Nat)} {i B o cap:Nat} {c:Array Value} {T:TypeId}
  (e0:Elems h Z tW aW l vs0 f0) (eV:Elems h Z tW aW [x] vsV fV) (hi:i≤l.length) (hk: ∀ b,Z b→h' b=h b) (hf: ∀ b∈f0.flatten++fV.flatten,h' b=h b) (hB:h' B=some (.cells c T (0,0))) (hcap:o+cap * 2≤c.size) (hl:l.length+1≤cap) (hbnd:(l.length+1) * 32≤2 ^ 47)
  (hc:zd h' B o ((l.length+1) * 2)=some (vs0.take (i * 2)++vsV++vs0.drop (i * 2))):Own h' Z (.sl tW) (.ow aW) (l.take i++ [x]++l.drop i) [.slice (some ⟨B,o,none⟩) (l.length+1) cap] (B::((f0.take i++fV)++f0.drop i).flatten):=by
 have s1:=Elems.sub e0 0 i (by omega)
 have s2:=Elems.sub e0 i (l.length - i) (by omega)
 have hlen:=e0.len
 have hfl:=e0.fl
 have hsz:tW.size=2:=rfl
 rw [hsz]at hlen s1 s2
 rw [Nat.zero_mul,List.drop_zero,List.drop_zero,List.drop_zero]at s1
 rw [List.take_of_length_le (l:=l.drop i) (by rw [List.length_drop]; omega),List.take_of_length_le (l:=vs0.drop (i * 2)) (by rw [List.length_drop]; omega),List.take_of_length_le (l:=f0.drop i) (by rw [List.length_drop]; omega)] at s2
 have e:=(s1.append eV).append s2
 have e':=e.keep hk (fun _ h=>h) (fun b hb=>hf b ((yAZ (fp0:=f0) (fpV:=fV) (i:=i)).mem_iff.1 hb))
 have hL:(l.take i++ [x]++l.drop i).length=l.length+1:=by simp; omega
 have:=e'.own (b:=B) (o:=o) (cap:=cap) hB (by rw [hL]; exact hc) (by exact hcap) (by rw [hL]; exact hl) (by rw [hL]; exact hbnd)
 rw [hL]at this
 exact this
theorem yGE {h:Heap} {B o n i:Nat} {X:Array Value} {T:TypeId} {vs0 vsV:List Value} (hB:h B=some (.cells X T (0,0))) (hl:vs0.length=n * 2) (hv:vsV.length=2) (hi:i≤n)
  (h1: ∀ j,j < i * 2→X[o+j]? =vs0[j]?) (h2: ∀ j,j < 2→X[o+i * 2+j]? =vsV[j]?) (h3: ∀ j,j < (n - i) * 2→X[o+(i+1) * 2+j]? =vs0[i * 2+j]?):zd h B o ((n+1) * 2)=some (vs0.take (i * 2)++vsV++vs0.drop (i * 2)):=by
 have hL:(vs0.take (i * 2)++vsV++vs0.drop (i * 2)).length=(n+1) * 2:=by simp [hl,hv]; omega
 have:=zac (h:=h) (b:=B) (vs0.take (i * 2)++vsV++vs0.drop (i * 2)) o (fun j hj=>by
  rw [hL]at hj
  unfold zF
  rw [hB]
  show X[o+j]? =_
  by_cases g1:j < i * 2
  ·rw [h1 j g1,List.append_assoc,List.getElem?_append_left (by rw [List.length_take]; omega),List.getElem?_take,if_pos g1]
  ·by_cases g2:j < i * 2+2
   ·rw [show o+j=o+i * 2+(j - i * 2) by omega,h2 _ (by omega),List.append_assoc,List.getElem?_append_right (by rw [List.length_take]; omega),List.getElem?_append_left (by rw [List.length_take]; omega),List.length_take]
    exact yH1 (by omega)
   ·rw [show o+j=o+(i+1) * 2+(j - (i+1) * 2) by omega,h3 _ (by omega),List.getElem?_append_right (by rw [List.length_append,List.length_take]; omega),List.length_append,List.length_take,hv,List.getElem?_drop]
    exact yH1 (by omega))
 rw [hL]at this; exact this
def yab (l:List dW) (i:Int) (v:List dW):Bool:=leb 0 i&&(leb i (l.length:Int)&&(v.length==1&&decide ((l.length+1) * 32≤2 ^ 47)))
def yfb (l:List dW) (i:Int) (v:List dW):List dW:=l.take i.toNat++v++l.drop i.toNat
def yEv:Con:=⟨ye2,ye7,fun x=>bif yab x.1 x.2.1 x.2.2.1 then some ((yfb x.1 x.2.1 x.2.2.1,()),()) else none⟩
theorem yxz {a0 a1 a2:Value} {w:World} {Z:Nat→Prop} {fs:List (List Nat)} {l':List dW} {v:Value} {B:Nat} {w2:World} {g gl:List Nat} (hio:ioOf w2=ioOf w) (hsz:w.heap.size≤w2.heap.size)
  (hB:(w.heap.size≤B∧B < w2.heap.size)∨B∈fs.flatten) (hZ: ¬ Z B) (hk: ∀ b,b < w.heap.size→b∉fs.flatten→hp w2 b=hp w b) (hp0:g.Perm gl) (hgn:gl.Nodup) (hgB: ∀ x∈gl,x≠B) (hgm: ∀ x∈gl,x∈fs.flatten∧ ¬ Z x) (ho:Own (hp w2) Z (.sl tW) (.ow aW) l' [v] (B::g)):DoneOk yEv [a0,a1,a2] fs Z w ((l',()),()) (.returned v) w2:=by
 refine ⟨[v],Z,[B::g],[[],[],[]],rfl,hio,hsz,hk,fun _ h=>h,fun _ h=> .inl h,⟨⟨[v],rfl,ho⟩,trivial⟩,⟨rfl,rfl,rfl,trivial⟩,?_,fun b hb=> ?_⟩
 ·simp only [List.flatten_cons,List.flatten_nil,List.append_nil,List.nodup_cons]
  exact ⟨fun h=>hgB B (hp0.mem_iff.1 h) rfl,hp0.nodup_iff.2 hgn⟩
 ·simp only [List.flatten_cons,List.flatten_nil,List.append_nil,List.mem_cons]at hb
  rcases hb with rfl | hb
  ·exact ⟨hB,hZ⟩
  ·have:=hgm b (hp0.mem_iff.1 hb)
   exact ⟨.inr this.1,this.2⟩
theorem yTv (w:World) (Z R:Nat→Prop) (l:List dW) (i:Nat) (x:dW) (a0 a2:Value) (f0 f2:List Nat) (o0:Own (hp w) Z (.sl tW) (.ow aW) l [a0] f0) (o2:Own (hp w) Z (.sl tW) (.ow aW) [x] [a2] f2) (hi:i≤l.length) (hbnd:(l.length+1) * 32≤2 ^ 47)
  (hlow: ∀ b,Z b∨R b→b < w.heap.size) (hnd:(f0++f2).Nodup) (hfr: ∀ b∈f0++f2,b < w.heap.size∧ ¬ Z b∧ ¬ R b):Calls Tryz.prog 180 #[a0,.int .i64 (i:Int),a2] w (DoneOk yEv [a0,.int .i64 (i:Int),a2] [f0,[],f2] Z w ((l.take i++ [x]++l.drop i,()),())):=by
 have hund:Tryz.prog.underlying 27=some (.slice 129):=by kernel_rfl
 have hinf:(Tryz.prog.info? 129).map (fun f=>(f.zero,f.size,f.bytes))=some (some (zeroVal tW),tW.size,tW.bytes):=by kernel_rfl
 obtain ⟨i0,hi0,hz0,hsz,hbz⟩: ∃ i0,Tryz.prog.info? 129=some i0∧i0.zero=some (zeroVal tW)∧i0.size=2∧i0.bytes=32:=by
  cases hq:Tryz.prog.info? 129 with
  | none=>rw [hq]at hinf; cases hinf
  | some f =>
   rw [hq]at hinf
   simp only [Option.map_some,Option.some.injEq,Prod.mk.injEq]at hinf
   exact ⟨f,rfl,hinf.1,hinf.2.1,hinf.2.2⟩
 have hzc:(zeroVal tW).cells.size=2:=rfl
 have hnd1:=hnd
 obtain ⟨hndl,hndr,hdis⟩:=List.nodup_append.1 hnd1
 have hZ0: ∀ b∈f0,¬ Z b:=fun b hb=>(hfr b (List.mem_append.2 (.inl hb))).2.1
 have hfl:([f0,[],f2]:List (List Nat)).flatten=f0++f2:=by simp
 obtain ⟨hd,cap,hv0,_,hlc,hc0⟩:=Own.elems o0
 obtain ⟨hdv,capv,hvv,_,hlcv,hcv⟩:=Own.elems o2
 rcases hcv with ⟨h9,_⟩ | ⟨bv,ov,cv,Tv,vsV,fpV,rfl,hBv,hcapv,hfv,hcsv,eV⟩
 ·cases h9
 subst hv0 hvv
 have hszt:tW.size=2:=rfl
 have eV':=eV
 have hvl:vsV.length=2:=by have:=eV.len; rw [hszt]at this; exact this
 rw [hszt]at hcsv hcapv
 have h1v:=fun v hv=>zif (eV.isCells (by decide) v hv)
 have hbvf:bv∈f2:=by rw [hfv]; exact List.mem_cons_self
 have hvlt:bv < w.heap.size:=(hfr bv (List.mem_append.2 (.inr hbvf))).1
 rcases hc0 with ⟨rfl,rfl,rfl,rfl⟩ | ⟨b,o,c,T,vs0,fp0,rfl,hB,hcap,hf0,hcs0,e0⟩
 ·
  have hi0':i=0:=by simpa using hi
  subst hi0'
  have hgm0: ∀ x∈([]:List (List Nat)).flatten++fpV.flatten,x∈ []++f2:=fun x hx=>by
   simp only [List.flatten_nil,List.nil_append]at hx ⊢
   rw [hfv]; exact List.mem_cons_of_mem _ hx
  have hgn0:(([]:List (List Nat)).flatten++fpV.flatten).Nodup:=by
   simp only [List.flatten_nil,List.nil_append]
   rw [hfv]at hndr
   exact (List.nodup_cons.1 hndr).2
  rcases zip (P:=Tryz.prog) (w:=w) (t:=27) (e:=129) (z:=zeroVal tW) hund hi0 hz0 (base:=none) (xa:=some ⟨bv,ov,none⟩) (sLen:=0) (sCap:=0) (n:=1) (c:=capv) (olds:= []) (news:=vsV) ⟨by simp,.inl rfl⟩ ⟨by rw [hvl,hsz],.inr ⟨bv,ov,rfl,by rw [hsz]; exact hcsv⟩⟩ (eV.isCells (by decide)) (Nat.le_refl _) (fun _=>rfl) (by omega) (by rw [hzc,hsz]) (by rw [hbz]; decide) (by omega) (fun h=>by omega) with ⟨h,_⟩ | ⟨_,cap,rest,hcp,hrest,hr⟩
  ·omega
  ·refine (yTu w _ _ _ _ hr).mono fun e w2 ⟨he,hw2⟩=> ?_
   subst he hw2
   rw [hsz]at hrest
   have hnew:hp (World.push w.drew (.cells (([]:List Value).toArray++vsV.toArray++rest) 129)) w.heap.size=some (.cells (([]:List Value).toArray++vsV.toArray++rest) 129 (0,0)):=zb5 (w:=w.drew)
   have hcs:(([]:List Value).toArray++vsV.toArray++rest).size=vsV.length+rest.size:=by simp
   refine yxz (B:=w.heap.size) rfl (by rw [zcK]; exact Nat.le_succ _) (.inl ⟨Nat.le_refl _,by rw [zcK]; exact Nat.lt_succ_self _⟩) (fun hz=>by have:=hlow _ (.inl hz); omega) (fun b hb _=>zae (w:=w.drew) hb) (yAZ (fp0:= []) (i:=0)) hgn0 (fun x hx=>by have:=(hfr x (hgm0 x hx)).1; omega) (fun x hx=>⟨by rw [hfl]; exact hgm0 x hx,(hfr x (hgm0 x hx)).2.1⟩) ?_
   refine yA0 (h:=hp w) (vs0:= []) (f0:= []) (i:=0) Elems.nil eV' (Nat.le_refl _) (fun b hb=>zae (w:=w.drew) (hlow b (.inl hb))) (fun x hx=>zae (w:=w.drew) (hfr x (hgm0 x hx)).1) hnew (by rw [hcs]; omega) (by simpa using hcp) (by decide) ?_
   have:=zaR hnew (o:=0) (n:=2) (by rw [hcs]; omega)
   show zd _ _ 0 2=_
   rw [this]
   simp [hvl]
 ·have e0':=e0
  have hgm: ∀ x∈fp0.flatten++fpV.flatten,x∈f0++f2:=fun x hx=>by
   rcases List.mem_append.1 hx with h | h
   ·exact List.mem_append.2 (.inl (by rw [hf0]; exact List.mem_cons_of_mem _ h))
   ·exact List.mem_append.2 (.inr (by rw [hfv]; exact List.mem_cons_of_mem _ h))
  have hgm2: ∀ x∈fp0.flatten++fpV.flatten,x∈([f0,[],f2]:List (List Nat)).flatten∧ ¬ Z x:=fun x hx=>⟨by rw [hfl]; exact hgm x hx,(hfr x (hgm x hx)).2.1⟩
  have hgl: ∀ x∈fp0.flatten++fpV.flatten,x < w.heap.size:=fun x hx=>(hfr x (hgm x hx)).1
  have hgs: ∀ x∈fp0.flatten++fpV.flatten,x≠w.heap.size:=fun x hx=>by have:=hgl x hx; omega
  have hnd3:((b::fp0.flatten)++(bv::fpV.flatten)).Nodup:=by rw [← hf0,← hfv]; exact hnd
  have hsub:(b::(fp0.flatten++fpV.flatten)).Sublist ((b::fp0.flatten)++(bv::fpV.flatten)):=List.Sublist.cons_cons _ (List.Sublist.append (List.Sublist.refl _) (List.sublist_cons_self _ _))
  have hgb':=hnd3.sublist hsub
  rw [List.nodup_cons]at hgb'
  have hgn:=hgb'.2
  have hgb: ∀ x∈fp0.flatten++fpV.flatten,x≠b:=fun x hx e=>hgb'.1 (e ▸ hx)
  have hl0:=e0.len
  rw [hszt]at hcs0 hcap hl0
  have h1c:=fun v hv=>zif (e0.isCells (by decide) v hv)
  have hbf:b∈f0:=by rw [hf0]; exact List.mem_cons_self
  have hbf':b∈f0++f2:=List.mem_append.2 (.inl hbf)
  obtain ⟨hblt,hbZ,_⟩:=hfr b hbf'
  have hbvb:bv≠b:=fun e=>hdis b hbf bv hbvf e.symm
  have hkZ: ∀ {w2:World},(∀ b',b'≠b→hp w2 b'=hp w b')→ ∀ b',Z b'→hp w2 b'=hp w b':=fun h b' hb'=>h b' (fun e=>hbZ (e ▸ hb'))
  by_cases hin:i=l.length
  ·subst hin
   rcases zip (P:=Tryz.prog) (w:=w) (t:=27) (e:=129) (z:=zeroVal tW) hund hi0 hz0 (base:=some ⟨b,o,none⟩) (xa:=some ⟨bv,ov,none⟩) (sLen:=l.length) (sCap:=cap) (n:=1) (c:=capv) (olds:=vs0) (news:=vsV) ⟨by rw [hl0,hsz],.inr ⟨b,o,rfl,by rw [hsz]; exact hcs0⟩⟩ ⟨by rw [hvl,hsz],.inr ⟨bv,ov,rfl,by rw [hsz]; exact hcsv⟩⟩ (eV.isCells (by decide)) hlc (fun h=>by cases h) (by omega) (by rw [hzc,hsz]) (by rw [hbz]; exact hbnd) (by omega) (fun h ad had=>by cases had; exact ⟨b,o,c,T,rfl,hB,by rw [hsz]; exact hcap⟩) with ⟨hroom,h⟩ | ⟨_,cap2,rest,hcp,hrest,hr⟩
   ·rcases h with ⟨h,_⟩ | ⟨b2,o2',cur,T2,hbo,hB2,hcap2,hr⟩
    ·cases h
    ·cases hbo
     rw [hB]at hB2
     cases hB2
     refine (ySq w b o l.length cap _ _ _ _ hlc hr).mono fun e w2 ⟨he,hw2⟩=> ?_
     subst he hw2
     rw [hsz]
     have hBn:hp (World.setBlk w b (ze c (o+l.length * 2) vsV) T) b=some (.cells (ze c (o+l.length * 2) vsV) T (0,0)):=za5 hblt
     have oth: ∀ b',b'≠b→hp (World.setBlk w b (ze c (o+l.length * 2) vsV) T) b'=hp w b':=fun b' h=>zaI h
     refine yxz (B:=b) rfl (by simp [World.setBlk]) (.inr (by rw [hfl]; exact hbf')) hbZ (fun b' _ hb'=>oth b' (fun e=>hb' (by rw [hfl,e]; exact hbf'))) (yAZ (i:=l.length)) hgn hgb hgm2 ?_
     refine yA0 (h:=hp w) (vs0:=vs0) (i:=l.length) e0' eV' (Nat.le_refl _) (hkZ oth) (fun x hx=>oth x (hgb x hx)) hBn (by rw [zaN]; exact hcap) hroom hbnd ?_
     rw [List.take_of_length_le (by omega),List.drop_eq_nil_of_le (by omega),List.append_nil]
     have hL:(vs0++vsV).length=(l.length+1) * 2:=by rw [List.length_append]; omega
     have:=zac (h:=hp (World.setBlk w b (ze c (o+l.length * 2) vsV) T)) (b:=b) (vs0++vsV) o (fun j hj=>by
      rw [hL]at hj
      unfold zF
      rw [hBn]
      show (ze c (o+l.length * 2) vsV)[o+j]? =_
      rw [z3 _ _ _ _ (by omega)]
      by_cases h1:j < l.length * 2
      ·rw [if_neg (by omega),List.getElem?_append_left (by omega),zX hcs0 j h1]
       unfold zF; rw [hB]
      ·rw [if_pos (by omega),List.getElem?_append_right (by omega)]
       exact yH1 (by omega))
     rw [hL]at this; exact this
   ·refine (ySq w b o l.length cap _ _ _ _ hlc hr).mono fun e w2 ⟨he,hw2⟩=> ?_
    subst he hw2
    rw [hsz]at hrest
    have hnew:hp (World.push w.drew (.cells (vs0.toArray++vsV.toArray++rest) 129)) w.heap.size=some (.cells (vs0.toArray++vsV.toArray++rest) 129 (0,0)):=zb5 (w:=w.drew)
    have hcs:(vs0.toArray++vsV.toArray++rest).size=vs0.length+vsV.length+rest.size:=by simp
    refine yxz (B:=w.heap.size) rfl (by rw [zcK]; exact Nat.le_succ _) (.inl ⟨Nat.le_refl _,by rw [zcK]; exact Nat.lt_succ_self _⟩) (fun hz=>by have:=hlow _ (.inl hz); omega) (fun b hb _=>zae (w:=w.drew) hb) (yAZ (i:=l.length)) hgn hgs hgm2 ?_
    refine yA0 (h:=hp w) (vs0:=vs0) (i:=l.length) e0' eV' (Nat.le_refl _) (fun b hb=>zae (w:=w.drew) (hlow b (.inl hb))) (fun x hx=>zae (w:=w.drew) (hgl x hx)) hnew (by rw [hcs]; omega) hcp hbnd ?_
    have:=zaR hnew (o:=0) (n:=(l.length+1) * 2) (by rw [hcs]; omega)
    have t1:vs0.take (l.length * 2)=vs0:=List.take_of_length_le (by omega)
    have t2:vs0.drop (l.length * 2)= []:=List.drop_eq_nil_of_le (by omega)
    rw [this,t1,t2]
    simp only [Array.toList_append,List.drop_zero,List.append_nil,Option.some.injEq]
    rw [List.take_append_of_le_length (by rw [List.length_append]; omega),List.take_of_length_le (by rw [List.length_append]; omega)]
  ·have hlt:i < l.length:=by omega
   have hpl:(vs0.take (i * 2)).length=i * 2:=by rw [List.length_take]; omega
   have hcl:(vs0.drop (i * 2)).length=(l.length - i) * 2:=by rw [List.length_drop]; omega
   have hcsd:Hdd (∀ j v,(vs0.drop (i * 2))[j]? =some v→w.cell? ⟨b,o+i * 2+j,none⟩=some v):=fun j v hj=>by
    rw [List.getElem?_drop]at hj
    rw [Nat.add_assoc]
    exact yzs hcs0 _ v hj
   by_cases hroom:l.length+1≤cap
   ·have hin: ∀ j,j < (l.length+1) * 2→(w.cell? ⟨b,o+j,none⟩).isSome=true∧w.frozen? ⟨b,o+j,none⟩=false:=fun j hj=>yTl hB (by omega)
    refine (ySH w b o l.length cap i bv ov capv (vs0.drop (i * 2)) vsV hlt hroom (by omega) hbvb hund (by rw [hi0]; simp [hsz]) (fun w=>by rw [zU hi0,hsz]) hcl hvl hcsd (fun j hj=>(hin j hj).1) (fun j hj=>(hin j hj).2) (yzs hcsv) (fun v hv=>h1c v (List.mem_of_mem_drop hv)) h1v Tv T cv.size c.size (yR7 hBv) (yR7 hB) (by omega) (yTI hBv _) (yTI hBv _)).mono fun e w2 ⟨he,hw2⟩=> ?_
    subst he
    have e1:w.drew.setCells b (o+(i+1) * 2) (vs0.drop (i * 2))=World.setBlk w.drew b (ze c (o+(i+1) * 2) (vs0.drop (i * 2))) T:=ymi _ _ w.drew c hB (by omega)
    have hb1:hp (World.setBlk w.drew b (ze c (o+(i+1) * 2) (vs0.drop (i * 2))) T) b=some (.cells (ze c (o+(i+1) * 2) (vs0.drop (i * 2))) T (0,0)):=za5 (w:=w.drew) hblt
    rw [e1,ymi vsV _ _ _ hb1 (by rw [zaN]; omega)] at hw2
    subst hw2
    have hsz1:b < (World.setBlk w.drew b (ze c (o+(i+1) * 2) (vs0.drop (i * 2))) T).heap.size:=by simp [World.setBlk]<;>exact hblt
    have hBn:hp (World.setBlk (World.setBlk w.drew b (ze c (o+(i+1) * 2) (vs0.drop (i * 2))) T) b (ze (ze c (o+(i+1) * 2) (vs0.drop (i * 2))) (o+i * 2) vsV) T) b=some (.cells (ze (ze c (o+(i+1) * 2) (vs0.drop (i * 2))) (o+i * 2) vsV) T (0,0)):=za5 hsz1
    have oth: ∀ b',b'≠b→hp (World.setBlk (World.setBlk w.drew b (ze c (o+(i+1) * 2) (vs0.drop (i * 2))) T) b (ze (ze c (o+(i+1) * 2) (vs0.drop (i * 2))) (o+i * 2) vsV) T) b'=hp w b':=fun b' h=>(zaI h).trans (zaI (w:=w.drew) h)
    refine yxz (B:=b) rfl (by simp [World.setBlk]<;>exact Nat.le_refl _) (.inr (by rw [hfl]; exact hbf')) hbZ (fun b' _ hb'=>oth b' (fun e=>hb' (by rw [hfl,e]; exact hbf'))) (yAZ (i:=i)) hgn hgb hgm2 ?_
    refine yA0 (h:=hp w) (vs0:=vs0) (i:=i) e0' eV' hi (hkZ oth) (fun x hx=>oth x (hgb x hx)) hBn (by rw [zaN,zaN]; exact hcap) hroom hbnd ?_
    refine yGE hBn hl0 hvl hi (fun j hj=> ?_) (fun j hj=> ?_) (fun j hj=> ?_)
    ·rw [z3 _ _ _ _ (by rw [zaN]; omega),z3 _ _ _ _ (by omega),if_neg (by omega),if_neg (by omega),zX hcs0 j (by omega)]
     unfold zF; rw [hB]
    ·rw [z3 _ _ _ _ (by rw [zaN]; omega),if_pos (by omega)]
     exact yH1 (by omega)
    ·rw [z3 _ _ _ _ (by rw [zaN]; omega),z3 _ _ _ _ (by omega),if_neg (by omega),if_pos (by omega),List.getElem?_drop]
     exact yH1 (by omega)
   ·refine (yS4 w b o l.length cap i bv ov capv (vs0.take (i * 2)) (vs0.drop (i * 2)) vsV hlt hlc (by omega) hbnd hund (by kernel_rfl) i0 hi0 (zeroVal tW) hz0 hsz hbz hzc hpl hcl hvl hblt hvlt (fun j v hj=>by
     rw [List.getElem?_take]at hj
     split at hj
     ·exact yzs hcs0 _ v hj
     ·cases hj) hcsd (yzs hcsv) (fun v hv=>h1c v (List.mem_of_mem_drop hv)) h1v).mono fun e w2 ⟨he,hw2⟩=> ?_
    subst he
    generalize hG:grownCap w (l.length+1) cap 129=G at hw2
    have hGn:l.length+1≤G:=by rw [← hG]; exact grownCap_ge w _ _ _
    generalize hROW:(vs0.take (i * 2)).toArray++Builtin.zeroCells (zeroVal tW).cells (l.length+1 - i)++Builtin.zeroCells (zeroVal tW).cells (G - (l.length+1))=ROW at hw2
    have hRs:ROW.size=G * 2:=by
     rw [← hROW,Array.size_append,Array.size_append,size_zeroCells,size_zeroCells,hzc,List.size_toArray,hpl]
     omega
    have hRg: ∀ j,j < i * 2→ROW[j]? =vs0[j]? :=fun j hj=>by
     rw [← hROW,Array.append_assoc,Array.getElem?_append_left (by simp; omega)]
     simp [List.getElem?_take,hj]
    have hA0:hp (w.alloc (.cells ROW 129)).drew w.heap.size=some (.cells ROW 129 (0,0)):=zb5 (w:=w)
    have hs0:(w.alloc (.cells ROW 129)).drew.heap.size=w.heap.size+1:=zcK (w:=w)
    have ho0: ∀ b',b' < w.heap.size→hp (w.alloc (.cells ROW 129)).drew b'=hp w b':=fun b' h=>zae (w:=w) h
    have hi0':ioOf (w.alloc (.cells ROW 129)).drew=ioOf w:=rfl
    generalize (w.alloc (.cells ROW 129)).drew=A0 at hw2 hA0 hs0 ho0 hi0'
    rw [ymi vsV _ _ _ hA0 (by omega)] at hw2
    have hA1:hp (World.setBlk A0 w.heap.size (ze ROW (i * 2) vsV) 129).drew w.heap.size=some (.cells (ze ROW (i * 2) vsV) 129 (0,0)):=za5 (w:=A0) (by omega)
    have hs1:(World.setBlk A0 w.heap.size (ze ROW (i * 2) vsV) 129).drew.heap.size=w.heap.size+1:=by
     show (World.setBlk A0 w.heap.size (ze ROW (i * 2) vsV) 129).heap.size=_
     simp [World.setBlk]; exact hs0
    have ho1: ∀ b',b' < w.heap.size→hp (World.setBlk A0 w.heap.size (ze ROW (i * 2) vsV) 129).drew b'=hp w b':=fun b' h=>(zaI (w:=A0) (by omega)).trans (ho0 b' h)
    have hi1':ioOf (World.setBlk A0 w.heap.size (ze ROW (i * 2) vsV) 129).drew=ioOf w:=hi0'
    generalize (World.setBlk A0 w.heap.size (ze ROW (i * 2) vsV) 129).drew=A1 at hw2 hA1 hs1 ho1 hi1'
    rw [ymi _ _ _ _ hA1 (by rw [zaN]; omega)] at hw2
    subst hw2
    have hBn:hp (World.setBlk A1 w.heap.size (ze (ze ROW (i * 2) vsV) ((i+1) * 2) (vs0.drop (i * 2))) 129) w.heap.size=some (.cells (ze (ze ROW (i * 2) vsV) ((i+1) * 2) (vs0.drop (i * 2))) 129 (0,0)):=za5 (by omega)
    have oth: ∀ b',b' < w.heap.size→hp (World.setBlk A1 w.heap.size (ze (ze ROW (i * 2) vsV) ((i+1) * 2) (vs0.drop (i * 2))) 129) b'=hp w b':=fun b' h=>(zaI (by omega)).trans (ho1 b' h)
    have hsz2:(World.setBlk A1 w.heap.size (ze (ze ROW (i * 2) vsV) ((i+1) * 2) (vs0.drop (i * 2))) 129).heap.size=w.heap.size+1:=by simp [World.setBlk]<;>exact hs1
    refine yxz (B:=w.heap.size) hi1' (by omega) (.inl ⟨Nat.le_refl _,by omega⟩) (fun hz=>by have:=hlow _ (.inl hz); omega) (fun b' hb' _=>oth b' hb') (yAZ (i:=i)) hgn hgs hgm2 ?_
    refine yA0 (h:=hp w) (vs0:=vs0) (i:=i) e0' eV' hi (fun b' hb'=>oth b' (hlow b' (.inl hb'))) (fun x hx=>oth x (hgl x hx)) hBn (by rw [zaN,zaN]; omega) hGn hbnd ?_
    refine yGE hBn hl0 hvl hi (fun j hj=> ?_) (fun j hj=> ?_) (fun j hj=> ?_)
    ·rw [z3 _ _ _ _ (by rw [zaN]; omega),z3 _ _ _ _ (by omega),if_neg (by omega),if_neg (by omega),Nat.zero_add,hRg j hj]
    ·rw [z3 _ _ _ _ (by rw [zaN]; omega),if_neg (by omega),z3 _ _ _ _ (by omega),if_pos (by omega)]
     exact yH1 (by omega)
    ·rw [z3 _ _ _ _ (by rw [zaN]; omega),if_pos (by omega),List.getElem?_drop]
     exact yH1 (by omega)
theorem yTJ:ConOk Tryz.prog 180 yEv where
 fn:=⟨_,Tryz.func180,by kernel_rfl,by kernel_rfl⟩
 run:=fun w Z R xs args fs r ha hF hz hnd hfr=>by
  obtain ⟨l,i,v,_⟩:=xs
  rcases args with _ | ⟨a0,_ | ⟨a1,_ | ⟨a2,_ | ⟨a3,t⟩⟩⟩⟩<;>rcases fs with _ | ⟨f0,_ | ⟨f1,_ | ⟨f2,_ | ⟨f3,u⟩⟩⟩⟩<;>try (simp [ArgsOk,yEv]at ha; done)
  obtain ⟨⟨cs0,rfl,o0⟩,⟨cs1,rfl,hi1⟩,rfl,⟨cs2,rfl,o2⟩,_⟩:=ha
  obtain ⟨rfl,hif⟩:=hi1
  have hF':(bif yab l i v then some (((yfb l i v,()),()):ResD ye7×MutD ye2) else none)=some r:=hF
  cases hq:yab l i v with
  | false=>rw [hq]at hF'; cases hF'
  | true =>
   rw [hq]at hF'
   obtain rfl:=Option.some.inj hF'
   simp only [yab,Bool.and_eq_true]at hq
   obtain ⟨i0,i1,hv1,hbnd⟩:=hq
   have i0:=zjQ.1 i0
   have i1:=zjQ.1 i1
   have hv1:=beq_iff_eq.1 hv1
   have hbnd:=of_decide_eq_true hbnd
   obtain ⟨k,hk⟩: ∃ k:Nat,i=(k:Int):=⟨Int.toNat i,(Int.toNat_of_nonneg i0).symm⟩
   subst hk
   have hone: ∃ x:dW,v= [x]:=by
    have hv1:List.length (α:=dW) v=1:=hv1
    match v,hv1 with
    | [x],_=>exact ⟨x,rfl⟩
   obtain ⟨x,rfl⟩:=hone
   have hl1:=Own.len o0
   have hl2:=Own.len o2
   obtain ⟨a0,rfl⟩:=List.length_eq_one_iff.1 hl1
   obtain ⟨a2,rfl⟩:=List.length_eq_one_iff.1 hl2
   have hfe:([f0,[],f2]:List (List Nat)).flatten=f0++f2:=by simp
   rw [hfe]at hnd hfr
   exact yTv w Z R l k x a0 a2 f0 f2 o0 o2 (by have:=i1; omega) hbnd hz hnd hfr
def yL (a0:List dW) (a1:Int) (a2:List dW):Option (ResD ye7×MutD ye2):=bif yab a0 a1 a2 then (fun n=>some ((n,()),())) (yfb a0 a1 a2) else none
theorem yBp (a0:List dW) (a1:Int) (a2:List dW) (h:yab a0 a1 a2=true):yL a0 a1 a2=(fun n=>some ((n,()),())) (yfb a0 a1 a2):=by unfold yL; rw [h]; rfl
def yp6:Con:=⟨ye2,ye7,fun x=>yL x.1 x.2.1 x.2.2.1⟩
theorem yBn:ConOk Tryz.prog 180 yp6:=yTJ
end
end Go.Tf
