/- Functions of the program, and what they come to. -/
import Derived.Test.YtgmadfpnljibhaaWordsF8
namespace Go.Tf
noncomputable section
open Go.Proofs
set_option synthInstance.maxHeartbeats 400000
set_option synthInstance.maxSize 10000
set_option linter.unusedVariables false
set_option linter.unusedSimpArgs false
set_option maxRecDepth 100000
section
def yjX:Code:=(Try.f177.body).getD .skip
def yn7:Env:=zki TT [(157,yhd),(158,yju),(191,yu9),(192,yu8)] []
theorem yF4:FrOk Try.prog ⟨yn7,24,fun _=>none⟩ yjX:=zkp yc yd ⟨ymR,ypO,yJx,yJw,trivial⟩
def ywj:Nat→Option Seg:=fun _=>none
def ybO:Shape:=⟨[(0,false,[.ptr 1000000000 0]),(3,false,[.ptr 0 0]),(4,false,[.int .i64])],[(0,[.int .i64,.int .i64,.br tI]),(1000000000,[.int .i64,.int .i64,.int .i64,.at 800000000,.int .i64,.int .i64,.int .i64,.int .i64,.int .i64,.at 800000001,.int .i64,.bool,.bool])],[(800000000,tM,(.pr (.ow .fz) (.pr (.ow (.pr .fz .fz)) (.pr .fz (.ow .fz))))),(800000001,tW,(.pr .fz .fz))]⟩
def yfC:Shape:=⟨[(0,false,[.ptr 1000000000 0]),(3,false,[.ptr 0 0]),(4,false,[.ci .i64 0])],[(0,[.int .i64,.int .i64,.br tI]),(1000000000,[.int .i64,.int .i64,.int .i64,.at 800000000,.int .i64,.int .i64,.int .i64,.int .i64,.int .i64,.at 800000001,.int .i64,.bool,.bool])],[(800000000,tM,(.pr (.ow .fz) (.pr (.ow (.pr .fz .fz)) (.pr .fz (.ow .fz))))),(800000001,tW,(.pr .fz .fz))]⟩
def yfp:Shape:=⟨[(0,false,[.ptr 1000000000 0])],[(1000000000,[.int .i64,.int .i64,.int .i64,.at 800000000,.int .i64,.int .i64,.int .i64,.int .i64,.int .i64,.at 800000001,.int .i64,.bool,.bool])],[(800000000,tM,(.pr (.ow .fz) (.pr (.ow (.pr .fz .fz)) (.pr .fz (.ow .fz))))),(800000001,tW,(.pr .fz .fz))]⟩
def yjo:Shape:=⟨[],[],[]⟩
abbrev ynm (v0:Int) (v1:dN) (v2:dA):(ybO).X:=((((),()),((),()),(v0,()),()),((v1.1,v1.2.1,v1.2.2,()),(v2.1,v2.2.1.1,v2.2.1.2,(),v2.2.2.2.1,v2.2.2.2.2.1,v2.2.2.2.2.2.1,v2.2.2.2.2.2.2.1,v2.2.2.2.2.2.2.2.1,(),v2.2.2.2.2.2.2.2.2.2.1,v2.2.2.2.2.2.2.2.2.2.2.1,v2.2.2.2.2.2.2.2.2.2.2.2,()),()),(v2.2.2.1,v2.2.2.2.2.2.2.2.2.1,()))
abbrev yDC (v0:dN) (v1:dA):(yfC).X:=((((),()),((),()),((),()),()),((v0.1,v0.2.1,v0.2.2,()),(v1.1,v1.2.1.1,v1.2.1.2,(),v1.2.2.2.1,v1.2.2.2.2.1,v1.2.2.2.2.2.1,v1.2.2.2.2.2.2.1,v1.2.2.2.2.2.2.2.1,(),v1.2.2.2.2.2.2.2.2.2.1,v1.2.2.2.2.2.2.2.2.2.2.1,v1.2.2.2.2.2.2.2.2.2.2.2,()),()),(v1.2.2.1,v1.2.2.2.2.2.2.2.2.1,()))
abbrev ytw (v0:dA):(yfp).X:=((((),()),()),((v0.1,v0.2.1.1,v0.2.1.2,(),v0.2.2.2.1,v0.2.2.2.2.1,v0.2.2.2.2.2.1,v0.2.2.2.2.2.2.1,v0.2.2.2.2.2.2.2.1,(),v0.2.2.2.2.2.2.2.2.2.1,v0.2.2.2.2.2.2.2.2.2.2.1,v0.2.2.2.2.2.2.2.2.2.2.2,()),()),(v0.2.2.1,v0.2.2.2.2.2.2.2.2.1,()))
def ynD (v0:Int) (v1:Int) (v2:Int) (v3:List Int) (v4:Int) (v5:Int) (v6:Int) (v7:Int) (v8:Int) (v9:Int) (v10:Int) (v11:Int) (v12:Int) (v13:Bool) (v14:Bool) (v15:List dM) (v16:List dW):Option ((ybO).X ⊕ ((yfp).X ⊕ (yjo).X)) :=
  bif (ltb v0 (v15.length:Int)) then
    let r4:=yM v1
    let r5:=yiO (v1,v2,v3)
    bnd (ycZ (v4,(v5,v6),v15,v7,v8,v9,v10,v11,v16,v12,v13,v14) v0 r4 r5) fun r6 =>
    some (.inl ((((),()),((),()),((IntKind.i64.wrap (v0+1)),()),()),((v1,v2,v3,()),(r6.2.1.1,r6.2.1.2.1.1,r6.2.1.2.1.2,(),r6.2.1.2.2.2.1,r6.2.1.2.2.2.2.1,r6.2.1.2.2.2.2.2.1,r6.2.1.2.2.2.2.2.2.1,r6.2.1.2.2.2.2.2.2.2.1,(),r6.2.1.2.2.2.2.2.2.2.2.2.1,r6.2.1.2.2.2.2.2.2.2.2.2.2.1,r6.2.1.2.2.2.2.2.2.2.2.2.2.2,()),()),(r6.2.1.2.2.1,r6.2.1.2.2.2.2.2.2.2.2.1,())))
  else
    some (.inr (.inl ((((),()),()),((v4,v5,v6,(),v7,v8,v9,v10,v11,(),v12,v13,v14,()),()),(v15,v16,()))))
def ycb (x:(ybO).X):=ynD x.1.2.2.1.1 x.2.1.1.1 x.2.1.1.2.1 x.2.1.1.2.2.1 x.2.1.2.1.1 x.2.1.2.1.2.1 x.2.1.2.1.2.2.1 x.2.1.2.1.2.2.2.2.1 x.2.1.2.1.2.2.2.2.2.1 x.2.1.2.1.2.2.2.2.2.2.1 x.2.1.2.1.2.2.2.2.2.2.2.1 x.2.1.2.1.2.2.2.2.2.2.2.2.1 x.2.1.2.1.2.2.2.2.2.2.2.2.2.2.1 x.2.1.2.1.2.2.2.2.2.2.2.2.2.2.2.1 x.2.1.2.1.2.2.2.2.2.2.2.2.2.2.2.2.1 x.2.2.1 x.2.2.2.1
def ys9 (x:(yfC).X):(ybO).X:=((((),()),((),()),(0,()),()),((x.2.1.1.1,x.2.1.1.2.1,x.2.1.1.2.2.1,()),(x.2.1.2.1.1,x.2.1.2.1.2.1,x.2.1.2.1.2.2.1,(),x.2.1.2.1.2.2.2.2.1,x.2.1.2.1.2.2.2.2.2.1,x.2.1.2.1.2.2.2.2.2.2.1,x.2.1.2.1.2.2.2.2.2.2.2.1,x.2.1.2.1.2.2.2.2.2.2.2.2.1,(),x.2.1.2.1.2.2.2.2.2.2.2.2.2.2.1,x.2.1.2.1.2.2.2.2.2.2.2.2.2.2.2.1,x.2.1.2.1.2.2.2.2.2.2.2.2.2.2.2.2.1,()),()),(x.2.2.1,x.2.2.2.1,()))
def yuV:Code:=(zdI yjX 64 52).getD .skip
theorem yFg:zdI yjX 64 13=some (.block 0 (.loop yuV)):=by kernel_rfl
theorem yHJ (x:(ybO).X):zg7 ⟨yn7,24,ywj⟩ 0 yuV 52 ybO yfp yjo x=ycb x:=by kernel_rfl
def yto (x:(yfC).X):Nat:=(fun (u0:Int) (u1:Int) (u2:List Int) (u3:Int) (u4:Int) (u5:Int) (u6:Int) (u7:Int) (u8:Int) (u9:Int) (u10:Int) (u11:Int) (u12:Bool) (u13:Bool) (u14:List dM) (u15:List dW)=>18446744073709551616) x.2.1.1.1 x.2.1.1.2.1 x.2.1.1.2.2.1 x.2.1.2.1.1 x.2.1.2.1.2.1 x.2.1.2.1.2.2.1 x.2.1.2.1.2.2.2.2.1 x.2.1.2.1.2.2.2.2.2.1 x.2.1.2.1.2.2.2.2.2.2.1 x.2.1.2.1.2.2.2.2.2.2.2.1 x.2.1.2.1.2.2.2.2.2.2.2.2.1 x.2.1.2.1.2.2.2.2.2.2.2.2.2.2.1 x.2.1.2.1.2.2.2.2.2.2.2.2.2.2.2.1 x.2.1.2.1.2.2.2.2.2.2.2.2.2.2.2.2.1 x.2.2.1 x.2.2.2.1
def yol (x:(yfC).X):Option ((yfp).X ⊕ (yjo).X):=zr ycb (yto x) (ys9 x)
def ytV:Seg:=⟨yfC,yfp,yjo,yol⟩
def ywk:Nat→Option Seg:=fun q=>bif Nat.beq q 13 then some ytV else ywj q
theorem yF5:FrOk Try.prog ⟨yn7,24,ywk⟩ yjX:=(yF4).loop (sg:=ytV) ybO ys9 (by decide) yFg ycb yto (by decide) (fun _=>rfl) (fun x r _ h=>h) yHJ
abbrev ygZ:List Par:= [.pt tA (.pr .fz (.pr (.pr .fz .fz) (.pr (.ow (.pr (.ow .fz) (.pr (.ow (.pr .fz .fz)) (.pr .fz (.ow .fz))))) (.pr .fz (.pr .fz (.pr .fz (.pr .fz (.pr .fz (.pr (.ow (.pr .fz .fz)) (.pr .fz (.pr .fz .fz))))))))))),.rd tN]
abbrev yoF:List OT:= []
def ylg (a0:dA) (a1:dN):Option (ResD yoF×MutD ygZ) :=
  zjw (yol ((((),()),((),()),((),()),()),((a1.1,a1.2.1,a1.2.2,()),(a0.1,a0.2.1.1,a0.2.1.2,(),a0.2.2.2.1,a0.2.2.2.2.1,a0.2.2.2.2.2.1,a0.2.2.2.2.2.2.1,a0.2.2.2.2.2.2.2.1,(),a0.2.2.2.2.2.2.2.2.2.1,a0.2.2.2.2.2.2.2.2.2.2.1,a0.2.2.2.2.2.2.2.2.2.2.2,()),()),(a0.2.2.1,a0.2.2.2.2.2.2.2.2.1,()))) (fun y6 =>
    let r8:=yck (y6.2.1.1.1,(y6.2.1.1.2.1,y6.2.1.1.2.2.1),y6.2.2.1,y6.2.1.1.2.2.2.2.1,y6.2.1.1.2.2.2.2.2.1,y6.2.1.1.2.2.2.2.2.2.1,y6.2.1.1.2.2.2.2.2.2.2.1,y6.2.1.1.2.2.2.2.2.2.2.2.1,y6.2.2.2.1,y6.2.1.1.2.2.2.2.2.2.2.2.2.2.1,y6.2.1.1.2.2.2.2.2.2.2.2.2.2.2.1,y6.2.1.1.2.2.2.2.2.2.2.2.2.2.2.2.1)
    some ((),(r8,()))) (fun y6 =>
    none)
theorem yL4 (x:InD ygZ):zjH ⟨yn7,24,ywk⟩ Try.f177.results.toList yjX ygZ yoF x=ylg x.1 x.2.1:=by kernel_rfl
theorem yJj:ConOk Try.prog 177 ⟨ygZ,yoF,fun x=>ylg x.1 x.2.1⟩:=zkh (yF5) Try.func177 (by kernel_rfl) (by kernel_rfl) Try.ntmps177.symm (by decide) (fun x r h=>(yL4 x).trans h)
def yhq (a0:dA) (a1:dN):dA:=ybb a0 a1
theorem yLg (a0:dA) (a1:dN) (hk:zi9 ygZ (a0,a1,())):ylg a0 a1=(fun n=>some ((),(n,()))) (yhq a0 a1):=by
  have hb:a0.2.2.1.length * 80≤2 ^ 47:=hk.1.2.2.1.1
  have h1:yol (yDC a1 a0)=some (.inl (ytw ((List.range a0.2.2.1.length).foldl (yhA a1) a0))) :=
    zks (step:=ycb) a0.2.2.1.length (fun i s=>ynm i a1 s) (yhA a1) (fun _ s=>s.2.2.1.length=a0.2.2.1.length) (fun s=> .inl (ytw s)) (fun i s hi hs=>⟨by
      simp only [ycb,ynm,ynD,hs,zjI (show (i:Int) < a0.2.2.1.length by omega),cond_true,wr (show -9223372036854775808≤(i:Int)+1 by omega) (by omega),Int.natCast_add,Int.natCast_one,Int.toNat_natCast,zkV,yiO]
      rw [yiU s i (yM a1.1) (ytD a1) (zkO (by rw [hs]; exact hi))]
      rfl,(ylk a1 s i).trans hs⟩) (fun s hs=>by simp only [ycb,ynm,ynD,hs,zkm (Int.le_refl _),cond_false]) a0 rfl _ (by show _ < 18446744073709551616; omega)
  unfold ylg yhq ybb
  exact (congrArg (fun z=>zjw z _ _) h1).trans rfl
def ywM:Con:=⟨ygZ,yoF,fun x=>(fun n=>some ((),(n,()))) (yhq x.1 x.2.1)⟩
theorem yLu:ConOk Try.prog 177 ywM:=(yJj).mono (fun x r hk h=>(yLg x.1 x.2.1 hk).trans h)
end
section
def yjU:Code:=(Try.f201.body).getD .skip
def yn4:Env:=zki TT [] []
theorem yFV:FrOk Try.prog ⟨yn4,18,fun _=>none⟩ yjU:=zkp yc yd trivial
def ywd:Nat→Option Seg:=fun _=>none
def ybL:Shape:=⟨[(0,false,[.br tI]),(3,false,[.int .i64]),(4,false,[.int .i64])],[],[]⟩
def yfz:Shape:=⟨[(0,false,[.br tI]),(3,false,[.ci .i64 0]),(4,false,[.ci .i64 0])],[],[]⟩
def yfm:Shape:=⟨[(3,false,[.int .i64])],[],[]⟩
def yjl:Shape:=⟨[],[],[]⟩
abbrev ynj (v0:List Int) (v1:Int) (v2:Int):(ybL).X:=(((v0,()),(v1,()),(v2,()),()),(),())
abbrev yDz (v0:List Int):(yfz).X:=(((v0,()),((),()),((),()),()),(),())
abbrev ytu (v0:Int):(yfm).X:=(((v0,()),()),(),())
def ynA (v0:List Int) (v1:Int) (v2:Int):Option ((ybL).X ⊕ ((yfm).X ⊕ (yjl).X)) :=
  bif (ltb v2 (v0.length:Int)) then
    bif (inb v2 v0.length) then
      some (.inl (((v0,()),((IntKind.i64.wrap ((BitVec.ofInt IntKind.i64.bits v1 ^^^ BitVec.ofInt IntKind.i64.bits (nth v0 v2 0)).toNat:Int)),()),((IntKind.i64.wrap (v2+1)),()),()),(),()))
    else none
  else
    some (.inr (.inl (((v1,()),()),(),())))
def yb8 (x:(ybL).X):=ynA x.1.1.1 x.1.2.1.1 x.1.2.2.1.1
def ys5 (x:(yfz).X):(ybL).X:=(((x.1.1.1,()),(0,()),(0,()),()),(),())
def yuR:Code:=(zdI yjU 64 116).getD .skip
theorem yFc:zdI yjU 64 29=some (.block 0 (.loop yuR)):=by kernel_rfl
theorem yHF (x:(ybL).X):zg7 ⟨yn4,18,ywd⟩ 0 yuR 116 ybL yfm yjl x=yb8 x:=by kernel_rfl
def ytk (x:(yfz).X):Nat:=(fun (u0:List Int)=>18446744073709551616) x.1.1.1
def yoh (x:(yfz).X):Option ((yfm).X ⊕ (yjl).X):=zr yb8 (ytk x) (ys5 x)
def ytR:Seg:=⟨yfz,yfm,yjl,yoh⟩
def ywe:Nat→Option Seg:=fun q=>bif Nat.beq q 29 then some ytR else ywd q
theorem yFW:FrOk Try.prog ⟨yn4,18,ywe⟩ yjU:=(yFV).loop (sg:=ytR) ybL ys5 (by decide) yFc yb8 ytk (by decide) (fun _=>rfl) (fun x r _ h=>h) yHF
abbrev ygU:List Par:= [.rd tL]
abbrev yoA:List OT:= [⟨false,tI,.fz⟩]
def yld (a0:List Int):Option (ResD yoA×MutD ygU) :=
  zjw (yoh (((a0,()),((),()),((),()),()),(),())) (fun y0 =>
    some ((y0.1.1.1,()),())) (fun y0 =>
    none)
theorem yLY (x:InD ygU):zjH ⟨yn4,18,ywe⟩ Try.f201.results.toList yjU ygU yoA x=yld x.1:=by kernel_rfl
theorem yJd:ConOk Try.prog 201 ⟨ygU,yoA,fun x=>yld x.1⟩:=zkh (yFW) Try.func201 (by kernel_rfl) (by kernel_rfl) Try.ntmps201.symm (by decide) (fun x r h=>(yLY x).trans h)
def yhn (a0:List Int):Int:=xorOf a0
theorem yLc (a0:List Int) (hk:zi9 ygU (a0,())):yld a0=(fun n=>some ((n,()),())) (yhn a0):=by
  have hb:a0.length * 8≤2 ^ 47:=hk.1.1
  have h1:yoh (yDz a0)=some (.inl (ytu (xorOf a0))) :=
    zkk (step:=yb8) a0 0 (fun i s=>ynj a0 s i) xw (fun _ _=>True) (fun s=> .inl (ytu s)) (fun i s hi _=>⟨by
      simp only [yb8,ynj,ynA,zjI (show (i:Int) < a0.length by omega),cond_true,wr (show -9223372036854775808≤(i:Int)+1 by omega) (by omega),Int.natCast_add,Int.natCast_one,Int.toNat_natCast,zkO hi,zjW]; rfl,trivial⟩) (fun s _=>by simp only [yb8,ynj,ynA,zkm (Int.le_refl _),cond_false]) 0 trivial _ (by show _ < 18446744073709551616; omega)
  unfold yld yhn
  rw [h1]; rfl
def ywI:Con:=⟨ygU,yoA,fun x=>(fun n=>some ((n,()),())) (yhn x.1)⟩
theorem yLq:ConOk Try.prog 201 ywI:=(yJd).mono (fun x r hk h=>(yLc x.1 hk).trans h)
end
section
def yq4:Code:=(Try.f194.body).getD .skip
def yra:Env:=zki TT [(201,ywI)] []
theorem yxk:FrOk Try.prog ⟨yra,5,fun _=>none⟩ yq4:=zkp yc yd ⟨yLq,trivial⟩
def yyE:Nat→Option Seg:=fun _=>none
abbrev ydo:List Par:= [.rd tL]
abbrev ygh:List OT:= [⟨false,tI,.fz⟩]
def yi5 (a0:List Int):Option (ResD ygh×MutD ydo) :=
  let r1:=yhn a0
  some ((r1,()),())
theorem yAJ (x:InD ydo):zjH ⟨yra,5,yyE⟩ Try.f194.results.toList yq4 ydo ygh x=yi5 x.1:=by kernel_rfl
theorem yyQ:ConOk Try.prog 194 ⟨ydo,ygh,fun x=>yi5 x.1⟩:=zkh (yxk) Try.func194 (by kernel_rfl) (by kernel_rfl) Try.ntmps194.symm (by decide) (fun x r h=>(yAJ x).trans h)
def ygq (a0:List Int):Int :=
  let r1:=yhn a0
  r1
def ypq:Con:=⟨ydo,ygh,fun x=>(fun n=>some ((n,()),())) (ygq x.1)⟩
theorem yz1 (a0:List Int):yi5 a0=(fun n=>some ((n,()),())) (ygq a0):=zkS (p:=fun (n:Int)=>((n,()),())) rfl
theorem yz6:ConOk Try.prog 194 ypq:=(yyQ).mono (fun x r _ h=>(yz1 x.1).trans h)
end
section
def yii:Code:=(Try.f178.body).getD .skip
def yme:Env:=zki TT [(62,ydd),(157,yhd),(193,ylw),(194,ypq),(195,yoM)] []
theorem yDc:FrOk Try.prog ⟨yme,61,fun _=>none⟩ yii:=zkp yc yd ⟨yhx,ymR,ytA,yz6,yw4,trivial⟩
def yus:Nat→Option Seg:=fun _=>none
def ybN:Shape:=⟨[(0,false,[.ptr 1000000000 0]),(1,false,[.int .i64]),(2,false,[.br tI]),(6,false,[.int .i64]),(7,false,[.int .i64])],[(1000000000,[.int .i64,.int .i64,.int .i64,.at 800000000,.int .i64,.int .i64,.int .i64,.int .i64,.int .i64,.at 800000001,.int .i64,.bool,.bool])],[(800000000,tM,(.pr (.ow .fz) (.pr (.ow (.pr .fz .fz)) (.pr .fz (.ow .fz))))),(800000001,tW,(.pr .fz .fz))]⟩
def yfB:Shape:=⟨[(0,false,[.ptr 1000000000 0]),(1,false,[.int .i64]),(2,false,[.br tI]),(6,false,[.int .i64]),(7,false,[.ci .i64 0])],[(1000000000,[.int .i64,.int .i64,.int .i64,.at 800000000,.int .i64,.int .i64,.int .i64,.int .i64,.int .i64,.at 800000001,.int .i64,.bool,.bool])],[(800000000,tM,(.pr (.ow .fz) (.pr (.ow (.pr .fz .fz)) (.pr .fz (.ow .fz))))),(800000001,tW,(.pr .fz .fz))]⟩
def yfo:Shape:=⟨[],[(1000000000,[.int .i64,.int .i64,.int .i64,.at 800000000,.int .i64,.int .i64,.int .i64,.int .i64,.int .i64,.at 800000001,.int .i64,.bool,.bool])],[(800000000,tM,(.pr (.ow .fz) (.pr (.ow (.pr .fz .fz)) (.pr .fz (.ow .fz))))),(800000001,tW,(.pr .fz .fz))]⟩
def yjn:Shape:=⟨[],[],[]⟩
abbrev ynl (v0:Int) (v1:List Int) (v2:Int) (v3:Int) (v4:dA):(ybN).X:=((((),()),(v0,()),(v1,()),(v2,()),(v3,()),()),((v4.1,v4.2.1.1,v4.2.1.2,(),v4.2.2.2.1,v4.2.2.2.2.1,v4.2.2.2.2.2.1,v4.2.2.2.2.2.2.1,v4.2.2.2.2.2.2.2.1,(),v4.2.2.2.2.2.2.2.2.2.1,v4.2.2.2.2.2.2.2.2.2.2.1,v4.2.2.2.2.2.2.2.2.2.2.2,()),()),(v4.2.2.1,v4.2.2.2.2.2.2.2.2.1,()))
abbrev yDB (v0:Int) (v1:List Int) (v2:Int) (v3:dA):(yfB).X:=((((),()),(v0,()),(v1,()),(v2,()),((),()),()),((v3.1,v3.2.1.1,v3.2.1.2,(),v3.2.2.2.1,v3.2.2.2.2.1,v3.2.2.2.2.2.1,v3.2.2.2.2.2.2.1,v3.2.2.2.2.2.2.2.1,(),v3.2.2.2.2.2.2.2.2.2.1,v3.2.2.2.2.2.2.2.2.2.2.1,v3.2.2.2.2.2.2.2.2.2.2.2,()),()),(v3.2.2.1,v3.2.2.2.2.2.2.2.2.1,()))
abbrev ytv (v0:dA):(yfo).X:=((),((v0.1,v0.2.1.1,v0.2.1.2,(),v0.2.2.2.1,v0.2.2.2.2.1,v0.2.2.2.2.2.1,v0.2.2.2.2.2.2.1,v0.2.2.2.2.2.2.2.1,(),v0.2.2.2.2.2.2.2.2.2.1,v0.2.2.2.2.2.2.2.2.2.2.1,v0.2.2.2.2.2.2.2.2.2.2.2,()),()),(v0.2.2.1,v0.2.2.2.2.2.2.2.2.1,()))
def ynC (v0:Int) (v1:List Int) (v2:Int) (v3:Int) (v4:Int) (v5:Int) (v6:Int) (v7:Int) (v8:Int) (v9:Int) (v10:Int) (v11:Int) (v12:Int) (v13:Bool) (v14:Bool) (v15:List dM) (v16:List dW):Option ((ybN).X ⊕ ((yfo).X ⊕ (yjn).X)) :=
  bif (ltb v3 (v15.length:Int)) then
    let r9:=ygq v1
    bif (v3 !=v2) then
      bif (v5 !=0) then
        bif (inb ((IntKind.i64.wrap ((IntKind.i64.wrap ((IntKind.i64.wrap (v3 - v2)) - 1))+v5)).tmod v5) v1.length) then
          let r10:=ych (v4,(v5,v6),v15,v7,v8,v9,v10,v11,v16,v12,v13,v14) v3 v0
          bif r10 then
            let r11:=yax v0
            bnd (ycZ (v4,(v5,v6),v15,v7,v8,v9,v10,v11,v16,v12,v13,v14) v3 r11 ([(nth v1 ((IntKind.i64.wrap ((IntKind.i64.wrap ((IntKind.i64.wrap (v3 - v2)) - 1))+v5)).tmod v5) 0)]:List Int)) fun r12 =>
            some (.inl ((((),()),(v0,()),(v1,()),(v2,()),((IntKind.i64.wrap (v3+1)),()),()),((r12.2.1.1,r12.2.1.2.1.1,r12.2.1.2.1.2,(),r12.2.1.2.2.2.1,r12.2.1.2.2.2.2.1,r12.2.1.2.2.2.2.2.1,r12.2.1.2.2.2.2.2.2.1,r12.2.1.2.2.2.2.2.2.2.1,(),r12.2.1.2.2.2.2.2.2.2.2.2.1,r12.2.1.2.2.2.2.2.2.2.2.2.2.1,r12.2.1.2.2.2.2.2.2.2.2.2.2.2,()),()),(r12.2.1.2.2.1,r12.2.1.2.2.2.2.2.2.2.2.1,())))
          else
            some (.inl ((((),()),(v0,()),(v1,()),(v2,()),((IntKind.i64.wrap (v3+1)),()),()),((v4,v5,v6,(),v7,v8,v9,v10,v11,(),v12,v13,v14,()),()),(v15,v16,())))
        else none
      else none
    else
      let r13:=ych (v4,(v5,v6),v15,v7,v8,v9,v10,v11,v16,v12,v13,v14) v3 v0
      bif r13 then
        let r14:=yax v0
        bnd (ycZ (v4,(v5,v6),v15,v7,v8,v9,v10,v11,v16,v12,v13,v14) v3 r14 ([r9]:List Int)) fun r15 =>
        some (.inl ((((),()),(v0,()),(v1,()),(v2,()),((IntKind.i64.wrap (v3+1)),()),()),((r15.2.1.1,r15.2.1.2.1.1,r15.2.1.2.1.2,(),r15.2.1.2.2.2.1,r15.2.1.2.2.2.2.1,r15.2.1.2.2.2.2.2.1,r15.2.1.2.2.2.2.2.2.1,r15.2.1.2.2.2.2.2.2.2.1,(),r15.2.1.2.2.2.2.2.2.2.2.2.1,r15.2.1.2.2.2.2.2.2.2.2.2.2.1,r15.2.1.2.2.2.2.2.2.2.2.2.2.2,()),()),(r15.2.1.2.2.1,r15.2.1.2.2.2.2.2.2.2.2.1,())))
      else
        some (.inl ((((),()),(v0,()),(v1,()),(v2,()),((IntKind.i64.wrap (v3+1)),()),()),((v4,v5,v6,(),v7,v8,v9,v10,v11,(),v12,v13,v14,()),()),(v15,v16,())))
  else
    some (.inr (.inl ((),((v4,v5,v6,(),v7,v8,v9,v10,v11,(),v12,v13,v14,()),()),(v15,v16,()))))
def yca (x:(ybN).X):=ynC x.1.2.1.1 x.1.2.2.1.1 x.1.2.2.2.1.1 x.1.2.2.2.2.1.1 x.2.1.1.1 x.2.1.1.2.1 x.2.1.1.2.2.1 x.2.1.1.2.2.2.2.1 x.2.1.1.2.2.2.2.2.1 x.2.1.1.2.2.2.2.2.2.1 x.2.1.1.2.2.2.2.2.2.2.1 x.2.1.1.2.2.2.2.2.2.2.2.1 x.2.1.1.2.2.2.2.2.2.2.2.2.2.1 x.2.1.1.2.2.2.2.2.2.2.2.2.2.2.1 x.2.1.1.2.2.2.2.2.2.2.2.2.2.2.2.1 x.2.2.1 x.2.2.2.1
def ys8 (x:(yfB).X):(ybN).X:=((((),()),(x.1.2.1.1,()),(x.1.2.2.1.1,()),(x.1.2.2.2.1.1,()),(0,()),()),((x.2.1.1.1,x.2.1.1.2.1,x.2.1.1.2.2.1,(),x.2.1.1.2.2.2.2.1,x.2.1.1.2.2.2.2.2.1,x.2.1.1.2.2.2.2.2.2.1,x.2.1.1.2.2.2.2.2.2.2.1,x.2.1.1.2.2.2.2.2.2.2.2.1,(),x.2.1.1.2.2.2.2.2.2.2.2.2.2.1,x.2.1.1.2.2.2.2.2.2.2.2.2.2.2.1,x.2.1.1.2.2.2.2.2.2.2.2.2.2.2.2.1,()),()),(x.2.2.1,x.2.2.2.1,()))
def yuU:Code:=(zdI yii 64 28).getD .skip
theorem yFf:zdI yii 64 7=some (.block 0 (.loop yuU)):=by kernel_rfl
theorem yHI (x:(ybN).X):zg7 ⟨yme,61,yus⟩ 0 yuU 28 ybN yfo yjn x=yca x:=by kernel_rfl
def ytn (x:(yfB).X):Nat:=(fun (u0:Int) (u1:List Int) (u2:Int) (u3:Int) (u4:Int) (u5:Int) (u6:Int) (u7:Int) (u8:Int) (u9:Int) (u10:Int) (u11:Int) (u12:Bool) (u13:Bool) (u14:List dM) (u15:List dW)=>18446744073709551616) x.1.2.1.1 x.1.2.2.1.1 x.1.2.2.2.1.1 x.2.1.1.1 x.2.1.1.2.1 x.2.1.1.2.2.1 x.2.1.1.2.2.2.2.1 x.2.1.1.2.2.2.2.2.1 x.2.1.1.2.2.2.2.2.2.1 x.2.1.1.2.2.2.2.2.2.2.1 x.2.1.1.2.2.2.2.2.2.2.2.1 x.2.1.1.2.2.2.2.2.2.2.2.2.2.1 x.2.1.1.2.2.2.2.2.2.2.2.2.2.2.1 x.2.1.1.2.2.2.2.2.2.2.2.2.2.2.2.1 x.2.2.1 x.2.2.2.1
def yok (x:(yfB).X):Option ((yfo).X ⊕ (yjn).X):=zr yca (ytn x) (ys8 x)
def ytU:Seg:=⟨yfB,yfo,yjn,yok⟩
def yut:Nat→Option Seg:=fun q=>bif Nat.beq q 7 then some ytU else yus q
theorem yDd:FrOk Try.prog ⟨yme,61,yut⟩ yii:=(yDc).loop (sg:=ytU) ybN ys8 (by decide) yFf yca ytn (by decide) (fun _=>rfl) (fun x r _ h=>h) yHI
abbrev ydk:List Par:= [.pt tA (.pr .fz (.pr (.pr .fz .fz) (.pr (.ow (.pr (.ow .fz) (.pr (.ow (.pr .fz .fz)) (.pr .fz (.ow .fz))))) (.pr .fz (.pr .fz (.pr .fz (.pr .fz (.pr .fz (.pr (.ow (.pr .fz .fz)) (.pr .fz (.pr .fz .fz))))))))))),.rd tI,.rd tL]
abbrev yiF:List OT:= []
def yjO (a0:dA) (a1:Int) (a2:List Int):Option (ResD yiF×MutD ydk) :=
  let r1:=ybW a0.2.1 a1
  zjw (yok ((((),()),(a1,()),(a2,()),(r1,()),((),()),()),((a0.1,a0.2.1.1,a0.2.1.2,(),a0.2.2.2.1,a0.2.2.2.2.1,a0.2.2.2.2.2.1,a0.2.2.2.2.2.2.1,a0.2.2.2.2.2.2.2.1,(),a0.2.2.2.2.2.2.2.2.2.1,a0.2.2.2.2.2.2.2.2.2.2.1,a0.2.2.2.2.2.2.2.2.2.2.2,()),()),(a0.2.2.1,a0.2.2.2.2.2.2.2.2.1,()))) (fun y15 =>
    some ((),((y15.2.1.1.1,(y15.2.1.1.2.1,y15.2.1.1.2.2.1),y15.2.2.1,y15.2.1.1.2.2.2.2.1,y15.2.1.1.2.2.2.2.2.1,y15.2.1.1.2.2.2.2.2.2.1,y15.2.1.1.2.2.2.2.2.2.2.1,y15.2.1.1.2.2.2.2.2.2.2.2.1,y15.2.2.2.1,y15.2.1.1.2.2.2.2.2.2.2.2.2.2.1,y15.2.1.1.2.2.2.2.2.2.2.2.2.2.2.1,y15.2.1.1.2.2.2.2.2.2.2.2.2.2.2.2.1),()))) (fun y15 =>
    none)
theorem yKX (x:InD ydk):zjH ⟨yme,61,yut⟩ Try.f178.results.toList yii ydk yiF x=yjO x.1 x.2.1 x.2.2.1:=by kernel_rfl
theorem yHd:ConOk Try.prog 178 ⟨ydk,yiF,fun x=>yjO x.1 x.2.1 x.2.2.1⟩:=zkh (yDd) Try.func178 (by kernel_rfl) (by kernel_rfl) Try.ntmps178.symm (by decide) (fun x r h=>(yKX x).trans h)
def ymO (a0:dA) (a1:Int) (a2:List Int):dA:=yao a0 a1 a2
def yiV (a0:dA) (a1:Int) (a2:List Int):Bool:=yV a0.2.1 a1&&((a2.length:Int)==a0.2.1.1 - 1&&(a0.2.2.1.length:Int)==a0.2.1.1)
theorem yIZ (a0:dA) (a1:Int) (a2:List Int) (hk:zi9 ydk (a0,a1,a2,())) (hq:yiV a0 a1 a2=true):yjO a0 a1 a2=(fun n=>some ((),(n,()))) (ymO a0 a1 a2):=by
  simp only [yiV,Bool.and_eq_true,beq_iff_eq]at hq
  have hg:=yk.1 (yX.1 hq.1).1
  have hp:=yf0 hq.1
  have h1:yok (yDB a1 a2 (yf a0.2.1 a1) a0)=some (.inl (ytv (yao a0 a1 a2))) :=
    zks (step:=yca) a0.2.2.1.length (fun i s=>ynl a1 a2 (yf a0.2.1 a1) i s) (yb0 (yf a0.2.1 a1) a0.2.1.1 a1 a2) (fun _ s=>s.2.2.1.length=a0.2.2.1.length∧s.2.1=a0.2.1) (fun s=> .inl (ytv s)) (fun i s hi hs=>⟨by
      have hN:s.2.1.1=a0.2.1.1:=by rw [hs.2]
      simp only [yca,ynl,ynC,hs.1,zjI (show (i:Int) < a0.2.2.1.length by omega),cond_true,wr (show -9223372036854775808≤(i:Int)+1 by omega) (by omega),Int.natCast_add,Int.natCast_one,Int.toNat_natCast,zkV,yhn,ygq,ych,yd8,yb0,ydM]
      rw [← hN]
      by_cases he:(i:Int)=yf a0.2.1 a1
      · rw [show ((i:Int) !=yf a0.2.1 a1)=false by simp [he],show ((i:Int)==yf a0.2.1 a1)=true from beq_iff_eq.2 he]
        rw [yiU s i (dataAt a1) [xorOf a2] (zkO (by rw [hs.1]; exact hi))]
        cases yaV s i a1<;>rfl
      · have hd:=yPR (N:=s.2.1.1) (i:=i) (p:=yf a0.2.1 a1) ⟨by omega,by omega⟩ ⟨by omega,by omega⟩ ⟨hp.1,by omega⟩ he
        rw [show ((i:Int) !=yf a0.2.1 a1)=true from bne_iff_ne.2 he,show ((i:Int)==yf a0.2.1 a1)=false from beq_eq_false_iff_ne.2 he,show (s.2.1.1 !=0)=true from bne_iff_ne.2 (by omega),
          wr (show -9223372036854775808≤(i:Int) - yf a0.2.1 a1 by omega) (by omega),wr (show -9223372036854775808≤(i:Int) - yf a0.2.1 a1 - 1 by omega) (by omega),wr (show -9223372036854775808≤(i:Int) - yf a0.2.1 a1 - 1+s.2.1.1 by omega) (by omega),zjP.2 (show 0≤((i:Int) - yf a0.2.1 a1 - 1+s.2.1.1).tmod s.2.1.1∧((i:Int) - yf a0.2.1 a1 - 1+s.2.1.1).tmod s.2.1.1 < a2.length by omega)]
        rw [yiU s i (dataAt a1) [nth a2 (((i:Int) - yf a0.2.1 a1 - 1+s.2.1.1).tmod s.2.1.1) 0] (zkO (by rw [hs.1]; exact hi))]
        cases yaV s i a1<;>rfl,(ylY _ _ _ _ s i).trans hs.1,(yah (yzn _ _ _ _ s i)).trans hs.2⟩) (fun s hs=>by simp only [yca,ynl,ynC,hs.1,zkm (Int.le_refl _),cond_false]) a0 ⟨rfl,rfl⟩ _ (by show _ < 18446744073709551616; omega)
  unfold yjO ymO ybW
  exact (congrArg (fun z=>zjw z _ _) h1).trans rfl
def ye7 (a0:dA) (a1:Int) (a2:List Int):Option (ResD yiF×MutD ydk):=bif yiV a0 a1 a2 then (fun n=>some ((),(n,()))) (ymO a0 a1 a2) else none
theorem yJM (a0:dA) (a1:Int) (a2:List Int) (h:yiV a0 a1 a2=true):ye7 a0 a1 a2=(fun n=>some ((),(n,()))) (ymO a0 a1 a2):=by unfold ye7; rw [h]; rfl
def yvl:Con:=⟨ydk,yiF,fun x=>ye7 x.1 x.2.1 x.2.2.1⟩
theorem yJJ:ConOk Try.prog 178 yvl:=(yHd).mono (fun x r hk h=>zkW h (fun hq=>yIZ x.1 x.2.1 x.2.2.1 hk hq))
end
section
def yv1:Code:=(Try.f153.body).getD .skip
def ywy:Env:=zki TT [(127,ym9),(177,ywM),(178,yvl)] []
theorem yBa:FrOk Try.prog ⟨ywy,54,fun _=>none⟩ yv1:=zkp yc yd ⟨yvy,yLu,yJJ,trivial⟩
def yCe:Nat→Option Seg:=fun _=>none
abbrev ycB:List Par:= [.pt tA (.pr .fz (.pr (.pr .fz .fz) (.pr (.ow (.pr (.ow .fz) (.pr (.ow (.pr .fz .fz)) (.pr .fz (.ow .fz))))) (.pr .fz (.pr .fz (.pr .fz (.pr .fz (.pr .fz (.pr (.ow (.pr .fz .fz)) (.pr .fz (.pr .fz .fz))))))))))),.rd tI,.rd tL]
abbrev yg9:List OT:= [⟨false,tI,.fz⟩]
def yh6 (a0:dA) (a1:Int) (a2:List Int):Option (ResD yg9×MutD ycB) :=
  bif (leb 4 (IntKind.i64.wrap (a0.2.2.2.2.2.1 - a0.2.2.2.2.2.2.1))) then
    let r1:=yd4 a0
    bif r1.2.2.2.2.2.2.2.2.2.2.1 then
      some ((6,()),(r1,()))
    else
      bif (zj4 ([]:List Int).length a2.length 8) then
        let r2:=yhq r1 (r1.2.2.2.2.2.1,a1,(([]:List Int)++a2))
        bif r2.2.2.2.2.2.2.2.2.2.2.1 then
          some ((6,()),(r2,()))
        else
          bnd (ye7 (r2.1,r2.2.1,r2.2.2.1,r2.2.2.2.1,r2.2.2.2.2.1,(IntKind.i64.wrap (r2.2.2.2.2.2.1+1)),r2.2.2.2.2.2.2) a1 a2) fun r3 =>
          bif r3.2.1.2.2.2.2.2.2.2.2.2.2.1 then
            some ((6,()),(r3.2.1,()))
          else
            some ((0,()),(r3.2.1,()))
      else none
  else
    bif a0.2.2.2.2.2.2.2.2.2.2.1 then
      some ((6,()),(a0,()))
    else
      bif (zj4 ([]:List Int).length a2.length 8) then
        let r4:=yhq a0 (a0.2.2.2.2.2.1,a1,(([]:List Int)++a2))
        bif r4.2.2.2.2.2.2.2.2.2.2.1 then
          some ((6,()),(r4,()))
        else
          bnd (ye7 (r4.1,r4.2.1,r4.2.2.1,r4.2.2.2.1,r4.2.2.2.2.1,(IntKind.i64.wrap (r4.2.2.2.2.2.1+1)),r4.2.2.2.2.2.2) a1 a2) fun r5 =>
          bif r5.2.1.2.2.2.2.2.2.2.2.2.2.1 then
            some ((6,()),(r5.2.1,()))
          else
            some ((0,()),(r5.2.1,()))
      else none
theorem yIp (x:InD ycB):zjH ⟨ywy,54,yCe⟩ Try.f153.results.toList yv1 ycB yg9 x=yh6 x.1 x.2.1 x.2.2.1:=by kernel_rfl
theorem yEg:ConOk Try.prog 153 ⟨ycB,yg9,fun x=>yh6 x.1 x.2.1 x.2.2.1⟩:=zkh (yBa) Try.func153 (by kernel_rfl) (by kernel_rfl) Try.ntmps153.symm (by decide) (fun x r h=>(yIp x).trans h)
def yhr (a0:dA) (a1:Int) (a2:List Int):Int×dA:=yaY a0 a1 a2
def yhz (a0:dA) (a1:Int) (a2:List Int):Bool:=yV a0.2.1 a1&&((a2.length:Int)==a0.2.1.1 - 1&&(a0.2.2.1.length:Int)==a0.2.1.1)
theorem yGF (a0:dA) (a1:Int) (a2:List Int) (hk:zi9 ycB (a0,a1,a2,())) (hq:yhz a0 a1 a2=true):yh6 a0 a1 a2=(fun n=>some ((n.1,()),(n.2,()))) (yhr a0 a1 a2):=by
  have hq':=hq
  simp only [yhz,Bool.and_eq_true,beq_iff_eq]at hq
  have hg:=yk.1 (yX.1 hq.1).1
  have hap:zj4 ([]:List Int).length a2.length 8=true:=zkw.2 (by simp only [List.length_nil]; omega)
  have key: ∀ b:dA,b.2.1=a0.2.1→b.2.2.1.length=a0.2.2.1.length→ye7 (ydg (ybb b (b.2.2.2.2.2.1,a1,a2))) a1 a2=some ((),(yao (ydg (ybb b (b.2.2.2.2.2.1,a1,a2))) a1 a2,())):=fun b h1 h2=>yJM _ _ _ (by
    unfold yiV
    rw [show (ydg (ybb b (b.2.2.2.2.2.1,a1,a2))).2.1=a0.2.1 from (yah (yf9 _ _)).trans h1,show (ydg (ybb b (b.2.2.2.2.2.1,a1,a2))).2.2.1.length=a0.2.2.1.length from (yOT _ _).trans h2]
    exact hq')
  unfold yh6 yhr yaY yw
  simp only [yyB,yhq,List.nil_append,hap,cond_true]
  cases leb 4 (IntKind.i64.wrap (a0.2.2.2.2.2.1 - a0.2.2.2.2.2.2.1))
  · have hd:=key a0 rfl rfl
    simp only [cond_false]
    generalize ybb a0 (a0.2.2.2.2.2.1,a1,a2)=R at hd ⊢
    generalize yao (ydg R) a1 a2=Q at hd ⊢
    unfold ydg at hd
    simp only [cond_false,hd,zky]
    unfold downA
    cases a0.2.2.2.2.2.2.2.2.2.2.1
    · cases R.2.2.2.2.2.2.2.2.2.2.1
      · cases Q.2.2.2.2.2.2.2.2.2.2.1<;>rfl
      · rfl
    · rfl
  · have hd:=key (checkA a0) (yJW a0) (yqd a0)
    simp only [cond_true]
    generalize checkA a0=C at hd ⊢
    generalize ybb C (C.2.2.2.2.2.1,a1,a2)=R at hd ⊢
    generalize yao (ydg R) a1 a2=Q at hd ⊢
    unfold ydg at hd
    simp only [cond_true,hd,zky]
    unfold downA
    cases C.2.2.2.2.2.2.2.2.2.2.1
    · cases R.2.2.2.2.2.2.2.2.2.2.1
      · cases Q.2.2.2.2.2.2.2.2.2.2.1<;>rfl
      · rfl
    · rfl
def yk5 (a0:dA) (a1:Int) (a2:List Int):Option (ResD yg9×MutD ycB):=bif yhz a0 a1 a2 then (fun n=>some ((n.1,()),(n.2,()))) (yhr a0 a1 a2) else none
theorem yHx (a0:dA) (a1:Int) (a2:List Int) (h:yhz a0 a1 a2=true):yk5 a0 a1 a2=(fun n=>some ((n.1,()),(n.2,()))) (yhr a0 a1 a2):=by unfold yk5; rw [h]; rfl
def ysW:Con:=⟨ycB,yg9,fun x=>yk5 x.1 x.2.1 x.2.2.1⟩
theorem yHs:ConOk Try.prog 153 ysW:=(yEg).mono (fun x r hk h=>zkW h (fun hq=>yGF x.1 x.2.1 x.2.2.1 hk hq))
end
section
def yv2:Code:=(Try.f122.body).getD .skip
def ywz:Env:=zki TT [(151,yqR),(152,yvk),(153,ysW)] [(36928,(.pr .fz .fz))]
theorem yBb:FrOk Try.prog ⟨ywz,63,fun _=>none⟩ yv2:=zkp yc yd ⟨yz8,yJI,yHs,trivial⟩
def yCf:Nat→Option Seg:=fun _=>none
abbrev ycC:List Par:= [.pt tA (.pr .fz (.pr (.pr .fz .fz) (.pr (.ow (.pr (.ow .fz) (.pr (.ow (.pr .fz .fz)) (.pr .fz (.ow .fz))))) (.pr .fz (.pr .fz (.pr .fz (.pr .fz (.pr .fz (.pr (.ow (.pr .fz .fz)) (.pr .fz (.pr .fz .fz))))))))))),.rd tI]
abbrev yha:List OT:= [⟨false,tI,.fz⟩]
def yh7 (a0:dA) (a1:Int):Option (ResD yha×MutD ycC) :=
  let r1:=yf8 a0 a1
  bif (ltb r1 0) then
    some ((0,()),(a0,()))
  else
    bif (inb r1 a0.2.2.2.2.2.2.2.2.1.length) then
      let r2:=yH a0 a1 ((nth a0.2.2.2.2.2.2.2.2.1 r1 (0,[])).2)
      bif (r2 !=0) then
        some ((r2,()),(a0,()))
      else
        bif (inb r1 a0.2.2.2.2.2.2.2.2.1.length) then
          bnd (yk5 a0 a1 ((nth a0.2.2.2.2.2.2.2.2.1 r1 (0,[])).2)) fun r3 =>
          bif (r3.1.1==0) then
            bif (zjG 0 r1 r3.2.1.2.2.2.2.2.2.2.2.1.length) then
              bif (zj4 ([]:List dW).length ((r3.2.1.2.2.2.2.2.2.2.2.1.drop (0:Int).toNat).take (r1 - 0).toNat).length 32) then
                bif (zjG (IntKind.i64.wrap (r1+1)) (r3.2.1.2.2.2.2.2.2.2.2.1.length:Int) r3.2.1.2.2.2.2.2.2.2.2.1.length) then
                  bif (zj4 (([]:List dW)++((r3.2.1.2.2.2.2.2.2.2.2.1.drop (0:Int).toNat).take (r1 - 0).toNat)).length ((r3.2.1.2.2.2.2.2.2.2.2.1.drop ((IntKind.i64.wrap (r1+1))).toNat).take ((r3.2.1.2.2.2.2.2.2.2.2.1.length:Int) - (IntKind.i64.wrap (r1+1))).toNat).length 32) then
                    some ((r3.1.1,()),((r3.2.1.1,r3.2.1.2.1,r3.2.1.2.2.1,r3.2.1.2.2.2.1,r3.2.1.2.2.2.2.1,r3.2.1.2.2.2.2.2.1,r3.2.1.2.2.2.2.2.2.1,r3.2.1.2.2.2.2.2.2.2.1,((([]:List dW)++((r3.2.1.2.2.2.2.2.2.2.2.1.drop (0:Int).toNat).take (r1 - 0).toNat))++((r3.2.1.2.2.2.2.2.2.2.2.1.drop ((IntKind.i64.wrap (r1+1))).toNat).take ((r3.2.1.2.2.2.2.2.2.2.2.1.length:Int) - (IntKind.i64.wrap (r1+1))).toNat)),r3.2.1.2.2.2.2.2.2.2.2.2),()))
                  else none
                else none
              else none
            else none
          else
            some ((r3.1.1,()),(r3.2.1,()))
        else none
    else none
theorem yIq (x:InD ycC):zjH ⟨ywz,63,yCf⟩ Try.f122.results.toList yv2 ycC yha x=yh7 x.1 x.2.1:=by kernel_rfl
theorem yEh:ConOk Try.prog 122 ⟨ycC,yha,fun x=>yh7 x.1 x.2.1⟩:=zkh (yBb) Try.func122 (by kernel_rfl) (by kernel_rfl) Try.ntmps122.symm (by decide) (fun x r h=>(yIq x).trans h)
def yhs (a0:dA) (a1:Int):Int×dA:=flushE a0 a1
def ypT (a0:dA) (a1:Int):Bool:=decide (a0.2.2.2.2.2.2.2.2.1.length≤1000)
theorem yGG (a0:dA) (a1:Int) (hk:zi9 ycC (a0,a1,())) (hq:ypT a0 a1=true):yh7 a0 a1=(fun n=>some ((n.1,()),(n.2,()))) (yhs a0 a1):=by
  have hq:=of_decide_eq_true hq
  unfold yh7 yhs flushE
  simp only [yf8]
  cases h0:ltb (yE a0.2.2.2.2.2.2.2.2.1 a1) 0
  · have h1:=zkU h0
    have hi:inb (yE a0.2.2.2.2.2.2.2.2.1 a1) a0.2.2.2.2.2.2.2.2.1.length=true:=(ypI (d:=((0:Int),([]:List Int))) (zk0 h1)).1
    simp only [hi,cond_true,cond_false]
    generalize hD:(nth a0.2.2.2.2.2.2.2.2.1 (yE a0.2.2.2.2.2.2.2.2.1 a1) (0,[])).2=D
    cases hc:(yH a0 a1 D !=0)
    · obtain ⟨ha,hl,hw,hd,hs,hb,_⟩:=yuY (bne_eq_false_iff_eq.1 hc)
      rw [yHx a0 a1 D (by unfold yhz; rw [hs,hl,yqb ha]; simp)]
      simp only [zky,cond_false,yhr,yMZ]
      have hk:=zjP.1 hi
      cases hr:((yaY a0 a1 D).1==0)
      · rfl
      · generalize yE a0.2.2.2.2.2.2.2.2.1 a1=K at h1 hk
        rw [wr (show -9223372036854775808≤K+1 by omega) (by omega),zko.2 (show (0:Int)≤0∧0≤K∧K≤(a0.2.2.2.2.2.2.2.2.1.length:Int) by omega),zko.2 (show 0≤K+1∧K+1≤(a0.2.2.2.2.2.2.2.2.1.length:Int)∧(a0.2.2.2.2.2.2.2.2.1.length:Int)≤(a0.2.2.2.2.2.2.2.2.1.length:Int) by omega),
          zkw.2 (by rw [List.length_take,List.length_drop,List.length_nil]; omega),zkw.2 (by rw [List.length_append,List.length_take,List.length_take,List.length_drop,List.length_drop,List.length_nil]; omega),yNB h1 hk.2]
        rw [beq_iff_eq.1 hr]; rfl
    · rfl
  · rfl
def ybp (a0:dA) (a1:Int):Option (ResD yha×MutD ycC):=bif ypT a0 a1 then (fun n=>some ((n.1,()),(n.2,()))) (yhs a0 a1) else none
theorem yvB (a0:dA) (a1:Int) (h:ypT a0 a1=true):ybp a0 a1=(fun n=>some ((n.1,()),(n.2,()))) (yhs a0 a1):=by unfold ybp; rw [h]; rfl
def yna:Con:=⟨ycC,yha,fun x=>ybp x.1 x.2.1⟩
theorem yvz:ConOk Try.prog 122 yna:=(yEh).mono (fun x r hk h=>zkW h (fun hq=>yGG x.1 x.2.1 hk hq))
end
end
end Go.Tf
