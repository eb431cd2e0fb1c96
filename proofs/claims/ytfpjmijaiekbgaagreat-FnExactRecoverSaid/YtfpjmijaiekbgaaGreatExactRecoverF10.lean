/- Functions of the program, and what they come to. -/
import Derived.Test.YtfpjmijaiekbgaaGreatExactRecoverF9
namespace Go.Tf
noncomputable section
open Go.Proofs
set_option synthInstance.maxHeartbeats 400000
set_option synthInstance.maxSize 10000
set_option linter.unusedVariables false
set_option linter.unusedSimpArgs false
set_option maxRecDepth 100000
section
def yAL:Code:=(Tryz.f226.body).getD .skip
def yBg:Env:=zki TT [(256,yH4)] []
theorem yIx:FrOk Tryz.prog ⟨yBg,5,fun _=>none⟩ yAL:=zkp yb yc ⟨y0O,trivial⟩
def yJS:Nat→Option Seg:=fun _=>none
abbrev yfw:List Par:= [.rd tL]
abbrev yj2:List OT:= [⟨false,tI,.fz⟩]
def yol (a0:List Int):Option (ResD yj2×MutD yfw) :=
  let r1:=ylH a0
  some ((r1,()),())
theorem yNN (x:InD yfw):zjH ⟨yBg,5,yJS⟩ Tryz.f226.results.toList yAL yfw yj2 x=yol x.1:=by kernel_rfl
theorem yKu:ConOk Tryz.prog 226 ⟨yfw,yj2,fun x=>yol x.1⟩:=zkh (yIx) Tryz.func226 (by kernel_rfl) (by kernel_rfl) Tryz.ntmps226.symm (by decide) (fun x r h=>(yNN x).trans h)
def ykk (a0:List Int):Int :=
  let r1:=ylH a0
  r1
def yxn:Con:=⟨yfw,yj2,fun x=>(fun n=>some ((n,()),())) (ykk x.1)⟩
theorem yME (a0:List Int):yol a0=(fun n=>some ((n,()),())) (ykk a0):=zkS (p:=fun (n:Int)=>((n,()),())) rfl
theorem yMR:ConOk Tryz.prog 226 yxn:=(yKu).mono (fun x r _ h=>(yME x.1).trans h)
end
section
def yI8:Code:=(Tryz.f227.body).getD .skip
def yJx:Env:=zki TT [(98,yu)] []
theorem yQ3:FrOk Tryz.prog ⟨yJx,34,fun _=>none⟩ yI8:=zkp yb yc ⟨yF,trivial⟩
def yTB:Nat→Option Seg:=fun _=>none
abbrev yhH:List Par:= [.rd tA,.rd tI,.rd tI]
abbrev ytS:List OT:= [⟨false,tB,.fz⟩]
def ypL (a0:dA) (a1:Int) (a2:Int):Option (ResD ytS×MutD yhH) :=
  let r1:=ya a1 0 (IntKind.i64.wrap ((a0.2.2.1.length:Int) - 1))
  bif r1 then
    bif (inb a1 a0.2.2.1.length) then
      bif (!((((nth a0.2.2.1 a1 ([],[],false,[])).2).2).1)) then
        bif (!(a1 !=a0.2.2.2.1)) then
          some (((ltb a2 a0.2.2.2.2.1),()),())
        else
          some ((true,()),())
      else
        some ((false,()),())
    else none
  else
    some ((false,()),())
theorem yZV (x:InD yhH):zjH ⟨yJx,34,yTB⟩ Tryz.f227.results.toList yI8 yhH ytS x=ypL x.1 x.2.1 x.2.2.1:=by kernel_rfl
theorem yV0:ConOk Tryz.prog 227 ⟨yhH,ytS,fun x=>ypL x.1 x.2.1 x.2.2.1⟩:=zkh (yQ3) Tryz.func227 (by kernel_rfl) (by kernel_rfl) Tryz.ntmps227.symm (by decide) (fun x r h=>(yZV x).trans h)
def yhT (a0:dA) (a1 a2:Int):Bool:=ylr a0 a1 a2
theorem yYc (a0:dA) (a1 a2:Int) (hk:zi9 yhH (a0,a1,a2,())):ypL a0 a1 a2=(fun n=>some ((n,()),())) (yhT a0 a1 a2):=by
  have hb:a0.2.2.1.length * 80≤2 ^ 47:=hk.1.2.2.1.1
  unfold ypL yhT ylr yf
  rw [ytb (show a0.2.2.1.length≤1152921504606846976 by omega)]
  cases inb a1 a0.2.2.1.length
  · rfl
  · cases (nth a0.2.2.1 a1 ([],[],false,[])).2.2.1<;>cases (a1 !=a0.2.2.2.1)<;>rfl
def yGx:Con:=⟨yhH,ytS,fun x=>(fun n=>some ((n,()),())) (yhT x.1 x.2.1 x.2.2.1)⟩
theorem yY0:ConOk Tryz.prog 227 yGx:=(yV0).mono (fun x r hk h=>(yYc x.1 x.2.1 x.2.2.1 hk).trans h)
end
section
def yni:Code:=(Tryz.f162.body).getD .skip
def yts:Env:=zki TT [(149,yrL),(150,yGv),(225,yBN),(226,yxn),(227,yGx)] []
theorem yRh:FrOk Tryz.prog ⟨yts,61,fun _=>none⟩ yni:=zkp yb yc ⟨yAA,yYY,ySX,yMR,yY0,trivial⟩
def yFJ:Nat→Option Seg:=fun _=>none
def ycS:Shape:=⟨[(0,false,[.ptr 1000000000 0]),(1,false,[.int .i64]),(2,false,[.br tI]),(6,false,[.int .i64]),(7,false,[.int .i64])],[(1000000000,[.int .i64,.int .i64,.int .i64,.at 800000000,.int .i64,.int .i64,.int .i64,.int .i64,.int .i64,.at 800000001,.int .i64,.bool,.bool])],[(800000000,tM,(.pr (.ow .fz) (.pr (.ow (.pr .fz .fz)) (.pr .fz (.ow .fz))))),(800000001,tW,(.pr .fz .fz))]⟩
def yiO:Shape:=⟨[(0,false,[.ptr 1000000000 0]),(1,false,[.int .i64]),(2,false,[.br tI]),(6,false,[.int .i64]),(7,false,[.ci .i64 0])],[(1000000000,[.int .i64,.int .i64,.int .i64,.at 800000000,.int .i64,.int .i64,.int .i64,.int .i64,.int .i64,.at 800000001,.int .i64,.bool,.bool])],[(800000000,tM,(.pr (.ow .fz) (.pr (.ow (.pr .fz .fz)) (.pr .fz (.ow .fz))))),(800000001,tW,(.pr .fz .fz))]⟩
def yiw:Shape:=⟨[],[(1000000000,[.int .i64,.int .i64,.int .i64,.at 800000000,.int .i64,.int .i64,.int .i64,.int .i64,.int .i64,.at 800000001,.int .i64,.bool,.bool])],[(800000000,tM,(.pr (.ow .fz) (.pr (.ow (.pr .fz .fz)) (.pr .fz (.ow .fz))))),(800000001,tW,(.pr .fz .fz))]⟩
def ypn:Shape:=⟨[],[],[]⟩
abbrev yuH (v0:Int) (v1:List Int) (v2:Int) (v3:Int) (v4:dA):(ycS).X:=((((),()),(v0,()),(v1,()),(v2,()),(v3,()),()),((v4.1,v4.2.1.1,v4.2.1.2,(),v4.2.2.2.1,v4.2.2.2.2.1,v4.2.2.2.2.2.1,v4.2.2.2.2.2.2.1,v4.2.2.2.2.2.2.2.1,(),v4.2.2.2.2.2.2.2.2.2.1,v4.2.2.2.2.2.2.2.2.2.2.1,v4.2.2.2.2.2.2.2.2.2.2.2,()),()),(v4.2.2.1,v4.2.2.2.2.2.2.2.2.1,()))
abbrev yRI (v0:Int) (v1:List Int) (v2:Int) (v3:dA):(yiO).X:=((((),()),(v0,()),(v1,()),(v2,()),((),()),()),((v3.1,v3.2.1.1,v3.2.1.2,(),v3.2.2.2.1,v3.2.2.2.2.1,v3.2.2.2.2.2.1,v3.2.2.2.2.2.2.1,v3.2.2.2.2.2.2.2.1,(),v3.2.2.2.2.2.2.2.2.2.1,v3.2.2.2.2.2.2.2.2.2.2.1,v3.2.2.2.2.2.2.2.2.2.2.2,()),()),(v3.2.2.1,v3.2.2.2.2.2.2.2.2.1,()))
abbrev yED (v0:dA):(yiw).X:=((),((v0.1,v0.2.1.1,v0.2.1.2,(),v0.2.2.2.1,v0.2.2.2.2.1,v0.2.2.2.2.2.1,v0.2.2.2.2.2.2.1,v0.2.2.2.2.2.2.2.1,(),v0.2.2.2.2.2.2.2.2.2.1,v0.2.2.2.2.2.2.2.2.2.2.1,v0.2.2.2.2.2.2.2.2.2.2.2,()),()),(v0.2.2.1,v0.2.2.2.2.2.2.2.2.1,()))
def yu7 (v0:Int) (v1:List Int) (v2:Int) (v3:Int) (v4:Int) (v5:Int) (v6:Int) (v7:Int) (v8:Int) (v9:Int) (v10:Int) (v11:Int) (v12:Int) (v13:Bool) (v14:Bool) (v15:List dM) (v16:List dW):Option ((ycS).X ⊕ ((yiw).X ⊕ (ypn).X)) :=
  bif (ltb v3 (v15.length:Int)) then
    let r9:=ykk v1
    bif (v3 !=v2) then
      bif (v5 !=0) then
        bif (inb ((IntKind.i64.wrap ((IntKind.i64.wrap ((IntKind.i64.wrap (v3 - v2)) - 1))+v5)).tmod v5) v1.length) then
          let r10:=yhT (v4,(v5,v6),v15,v7,v8,v9,v10,v11,v16,v12,v13,v14) v3 v0
          bif r10 then
            let r11:=yhS v0
            bnd (yha (v4,(v5,v6),v15,v7,v8,v9,v10,v11,v16,v12,v13,v14) v3 r11 ([(nth v1 ((IntKind.i64.wrap ((IntKind.i64.wrap ((IntKind.i64.wrap (v3 - v2)) - 1))+v5)).tmod v5) 0)]:List Int)) fun r12 =>
            some (.inl ((((),()),(v0,()),(v1,()),(v2,()),((IntKind.i64.wrap (v3+1)),()),()),((r12.2.1.1,r12.2.1.2.1.1,r12.2.1.2.1.2,(),r12.2.1.2.2.2.1,r12.2.1.2.2.2.2.1,r12.2.1.2.2.2.2.2.1,r12.2.1.2.2.2.2.2.2.1,r12.2.1.2.2.2.2.2.2.2.1,(),r12.2.1.2.2.2.2.2.2.2.2.2.1,r12.2.1.2.2.2.2.2.2.2.2.2.2.1,r12.2.1.2.2.2.2.2.2.2.2.2.2.2,()),()),(r12.2.1.2.2.1,r12.2.1.2.2.2.2.2.2.2.2.1,())))
          else
            some (.inl ((((),()),(v0,()),(v1,()),(v2,()),((IntKind.i64.wrap (v3+1)),()),()),((v4,v5,v6,(),v7,v8,v9,v10,v11,(),v12,v13,v14,()),()),(v15,v16,())))
        else none
      else none
    else
      let r13:=yhT (v4,(v5,v6),v15,v7,v8,v9,v10,v11,v16,v12,v13,v14) v3 v0
      bif r13 then
        let r14:=yhS v0
        bnd (yha (v4,(v5,v6),v15,v7,v8,v9,v10,v11,v16,v12,v13,v14) v3 r14 ([r9]:List Int)) fun r15 =>
        some (.inl ((((),()),(v0,()),(v1,()),(v2,()),((IntKind.i64.wrap (v3+1)),()),()),((r15.2.1.1,r15.2.1.2.1.1,r15.2.1.2.1.2,(),r15.2.1.2.2.2.1,r15.2.1.2.2.2.2.1,r15.2.1.2.2.2.2.2.1,r15.2.1.2.2.2.2.2.2.1,r15.2.1.2.2.2.2.2.2.2.1,(),r15.2.1.2.2.2.2.2.2.2.2.2.1,r15.2.1.2.2.2.2.2.2.2.2.2.2.1,r15.2.1.2.2.2.2.2.2.2.2.2.2.2,()),()),(r15.2.1.2.2.1,r15.2.1.2.2.2.2.2.2.2.2.1,())))
      else
        some (.inl ((((),()),(v0,()),(v1,()),(v2,()),((IntKind.i64.wrap (v3+1)),()),()),((v4,v5,v6,(),v7,v8,v9,v10,v11,(),v12,v13,v14,()),()),(v15,v16,())))
  else
    some (.inr (.inl ((),((v4,v5,v6,(),v7,v8,v9,v10,v11,(),v12,v13,v14,()),()),(v15,v16,()))))
def ydt (x:(ycS).X):=yu7 x.1.2.1.1 x.1.2.2.1.1 x.1.2.2.2.1.1 x.1.2.2.2.2.1.1 x.2.1.1.1 x.2.1.1.2.1 x.2.1.1.2.2.1 x.2.1.1.2.2.2.2.1 x.2.1.1.2.2.2.2.2.1 x.2.1.1.2.2.2.2.2.2.1 x.2.1.1.2.2.2.2.2.2.2.1 x.2.1.1.2.2.2.2.2.2.2.2.1 x.2.1.1.2.2.2.2.2.2.2.2.2.2.1 x.2.1.1.2.2.2.2.2.2.2.2.2.2.2.1 x.2.1.1.2.2.2.2.2.2.2.2.2.2.2.2.1 x.2.2.1 x.2.2.2.1
def yEd (x:(yiO).X):(ycS).X:=((((),()),(x.1.2.1.1,()),(x.1.2.2.1.1,()),(x.1.2.2.2.1.1,()),(0,()),()),((x.2.1.1.1,x.2.1.1.2.1,x.2.1.1.2.2.1,(),x.2.1.1.2.2.2.2.1,x.2.1.1.2.2.2.2.2.1,x.2.1.1.2.2.2.2.2.2.1,x.2.1.1.2.2.2.2.2.2.2.1,x.2.1.1.2.2.2.2.2.2.2.2.1,(),x.2.1.1.2.2.2.2.2.2.2.2.2.2.1,x.2.1.1.2.2.2.2.2.2.2.2.2.2.2.1,x.2.1.1.2.2.2.2.2.2.2.2.2.2.2.2.1,()),()),(x.2.2.1,x.2.2.2.1,()))
def yGh:Code:=(zdI yni 64 28).getD .skip
theorem yTT:zdI yni 64 7=some (.block 0 (.loop yGh)):=by kernel_rfl
theorem yWN (x:(ycS).X):zg7 ⟨yts,61,yFJ⟩ 0 yGh 28 ycS yiw ypn x=ydt x:=by kernel_rfl
def yEv (x:(yiO).X):Nat:=(fun (u0:Int) (u1:List Int) (u2:Int) (u3:Int) (u4:Int) (u5:Int) (u6:Int) (u7:Int) (u8:Int) (u9:Int) (u10:Int) (u11:Int) (u12:Bool) (u13:Bool) (u14:List dM) (u15:List dW)=>18446744073709551616) x.1.2.1.1 x.1.2.2.1.1 x.1.2.2.2.1.1 x.2.1.1.1 x.2.1.1.2.1 x.2.1.1.2.2.1 x.2.1.1.2.2.2.2.1 x.2.1.1.2.2.2.2.2.1 x.2.1.1.2.2.2.2.2.2.1 x.2.1.1.2.2.2.2.2.2.2.1 x.2.1.1.2.2.2.2.2.2.2.2.1 x.2.1.1.2.2.2.2.2.2.2.2.2.2.1 x.2.1.1.2.2.2.2.2.2.2.2.2.2.2.1 x.2.1.1.2.2.2.2.2.2.2.2.2.2.2.2.1 x.2.2.1 x.2.2.2.1
def yvL (x:(yiO).X):Option ((yiw).X ⊕ (ypn).X):=zr ydt (yEv x) (yEd x)
def yE0:Seg:=⟨yiO,yiw,ypn,yvL⟩
def yFK:Nat→Option Seg:=fun q=>bif Nat.beq q 7 then some yE0 else yFJ q
theorem yRi:FrOk Tryz.prog ⟨yts,61,yFK⟩ yni:=(yRh).loop (sg:=yE0) ycS yEd (by decide) yTT ydt yEv (by decide) (fun _=>rfl) (fun x r _ h=>h) yWN
abbrev yfo:List Par:= [.pt tA (.pr .fz (.pr (.pr .fz .fz) (.pr (.ow (.pr (.ow .fz) (.pr (.ow (.pr .fz .fz)) (.pr .fz (.ow .fz))))) (.pr .fz (.pr .fz (.pr .fz (.pr .fz (.pr .fz (.pr (.ow (.pr .fz .fz)) (.pr .fz (.pr .fz .fz))))))))))),.rd tI,.rd tL]
abbrev ynA:List OT:= []
def ypR (a0:dA) (a1:Int) (a2:List Int):Option (ResD ynA×MutD yfo) :=
  let r1:=yjt a0.2.1 a1
  zjw (yvL ((((),()),(a1,()),(a2,()),(r1,()),((),()),()),((a0.1,a0.2.1.1,a0.2.1.2,(),a0.2.2.2.1,a0.2.2.2.2.1,a0.2.2.2.2.2.1,a0.2.2.2.2.2.2.1,a0.2.2.2.2.2.2.2.1,(),a0.2.2.2.2.2.2.2.2.2.1,a0.2.2.2.2.2.2.2.2.2.2.1,a0.2.2.2.2.2.2.2.2.2.2.2,()),()),(a0.2.2.1,a0.2.2.2.2.2.2.2.2.1,()))) (fun y15 =>
    some ((),((y15.2.1.1.1,(y15.2.1.1.2.1,y15.2.1.1.2.2.1),y15.2.2.1,y15.2.1.1.2.2.2.2.1,y15.2.1.1.2.2.2.2.2.1,y15.2.1.1.2.2.2.2.2.2.1,y15.2.1.1.2.2.2.2.2.2.2.1,y15.2.1.1.2.2.2.2.2.2.2.2.1,y15.2.2.2.1,y15.2.1.1.2.2.2.2.2.2.2.2.2.2.1,y15.2.1.1.2.2.2.2.2.2.2.2.2.2.2.1,y15.2.1.1.2.2.2.2.2.2.2.2.2.2.2.2.1),()))) (fun y15 =>
    none)
theorem yZ4 (x:InD yfo):zjH ⟨yts,61,yFK⟩ Tryz.f162.results.toList yni yfo ynA x=ypR x.1 x.2.1 x.2.2.1:=by kernel_rfl
theorem yV9:ConOk Tryz.prog 162 ⟨yfo,ynA,fun x=>ypR x.1 x.2.1 x.2.2.1⟩:=zkh (yRi) Tryz.func162 (by kernel_rfl) (by kernel_rfl) Tryz.ntmps162.symm (by decide) (fun x r h=>(yZ4 x).trans h)
def yt5 (a0:dA) (a1:Int) (a2:List Int):dA:=yhP a0 a1 a2
def ynT (a0:dA) (a1:Int) (a2:List Int):Bool:=ykH a0.2.1 a1&&((a2.length:Int)==a0.2.1.1 - 1&&(a0.2.2.1.length:Int)==a0.2.1.1)
theorem yYl (a0:dA) (a1:Int) (a2:List Int) (hk:zi9 yfo (a0,a1,a2,())) (hq:ynT a0 a1 a2=true):ypR a0 a1 a2=(fun n=>some ((),(n,()))) (yt5 a0 a1 a2):=by
  simp only [ynT,Bool.and_eq_true,beq_iff_eq]at hq
  have hg:=yaZ.1 (ylS.1 hq.1).1
  have hp:=yvk hq.1
  have h1:yvL (yRI a1 a2 (yh a0.2.1 a1) a0)=some (.inl (yED (yhP a0 a1 a2))) :=
    zks (step:=ydt) a0.2.2.1.length (fun i s=>yuH a1 a2 (yh a0.2.1 a1) i s) (yec (yh a0.2.1 a1) a0.2.1.1 a1 a2) (fun _ s=>s.2.2.1.length=a0.2.2.1.length∧s.2.1=a0.2.1) (fun s=> .inl (yED s)) (fun i s hi hs=>⟨by
      have hN:s.2.1.1=a0.2.1.1:=by rw [hs.2]
      simp only [ydt,yuH,yu7,hs.1,zjI (show (i:Int) < a0.2.2.1.length by omega),cond_true,wr (show -9223372036854775808≤(i:Int)+1 by omega) (by omega),Int.natCast_add,Int.natCast_one,Int.toNat_natCast,zkV,ylH,ykk,yhT,yIp,yec,yyQ]
      rw [← hN]
      by_cases he:(i:Int)=yh a0.2.1 a1
      · rw [show ((i:Int) !=yh a0.2.1 a1)=false by simp [he],show ((i:Int)==yh a0.2.1 a1)=true from beq_iff_eq.2 he]
        rw [yt7 s i (ywk a1) [ypV a2] (zkO (by rw [hs.1]; exact hi))]
        cases ylr s i a1<;>rfl
      · have hd:=y3t (N:=s.2.1.1) (i:=i) (p:=yh a0.2.1 a1) ⟨by omega,by omega⟩ ⟨by omega,by omega⟩ ⟨hp.1,by omega⟩ he
        rw [show ((i:Int) !=yh a0.2.1 a1)=true from bne_iff_ne.2 he,show ((i:Int)==yh a0.2.1 a1)=false from beq_eq_false_iff_ne.2 he,show (s.2.1.1 !=0)=true from bne_iff_ne.2 (by omega),
          wr (show -9223372036854775808≤(i:Int) - yh a0.2.1 a1 by omega) (by omega),wr (show -9223372036854775808≤(i:Int) - yh a0.2.1 a1 - 1 by omega) (by omega),wr (show -9223372036854775808≤(i:Int) - yh a0.2.1 a1 - 1+s.2.1.1 by omega) (by omega),zjP.2 (show 0≤((i:Int) - yh a0.2.1 a1 - 1+s.2.1.1).tmod s.2.1.1∧((i:Int) - yh a0.2.1 a1 - 1+s.2.1.1).tmod s.2.1.1 < a2.length by omega)]
        rw [yt7 s i (ywk a1) [nth a2 (((i:Int) - yh a0.2.1 a1 - 1+s.2.1.1).tmod s.2.1.1) 0] (zkO (by rw [hs.1]; exact hi))]
        cases ylr s i a1<;>rfl,(yyP _ _ _ _ s i).trans hs.1,(yQq (yLr _ _ _ _ s i)).trans hs.2⟩) (fun s hs=>by simp only [ydt,yuH,yu7,hs.1,zkm (Int.le_refl _),cond_false]) a0 ⟨rfl,rfl⟩ _ (by show _ < 18446744073709551616; omega)
  unfold ypR yt5 yjt
  exact (congrArg (fun z=>zjw z _ _) h1).trans rfl
def ynR (a0:dA) (a1:Int) (a2:List Int):Option (ResD ynA×MutD yfo):=bif ynT a0 a1 a2 then (fun n=>some ((),(n,()))) (yt5 a0 a1 a2) else none
theorem yZc (a0:dA) (a1:Int) (a2:List Int) (h:ynT a0 a1 a2=true):ynR a0 a1 a2=(fun n=>some ((),(n,()))) (yt5 a0 a1 a2):=by unfold ynR; rw [h]; rfl
def yGE:Con:=⟨yfo,ynA,fun x=>ynR x.1 x.2.1 x.2.2.1⟩
theorem yY7:ConOk Tryz.prog 162 yGE:=(yV9).mono (fun x r hk h=>zkW h (fun hq=>yYl x.1 x.2.1 x.2.2.1 hk hq))
end
section
def ynj:Code:=(Tryz.f228.body).getD .skip
def ytt:Env:=zki TT [(149,yrL),(224,ypu),(241,yBO)] []
theorem yRj:FrOk Tryz.prog ⟨ytt,63,fun _=>none⟩ ynj:=zkp yb yc ⟨yAA,yyp,ySY,trivial⟩
def yFL:Nat→Option Seg:=fun _=>none
def yb7:Shape:=⟨[(0,false,[.ptr 1000000000 0]),(2,false,[.int .i64])],[(1000000000,[.int .i64,.int .i64,.int .i64,.at 800000000,.int .i64,.int .i64,.int .i64,.int .i64,.int .i64,.at 800000001,.int .i64,.bool,.bool])],[(800000000,tM,(.pr (.ow .fz) (.pr (.ow (.pr .fz .fz)) (.pr .fz (.ow .fz))))),(800000001,tW,(.pr .fz .fz))]⟩
def ygQ:Shape:=⟨[(0,false,[.ptr 1000000000 0]),(2,false,[.ci .i64 0])],[(1000000000,[.int .i64,.int .i64,.int .i64,.at 800000000,.int .i64,.int .i64,.int .i64,.int .i64,.int .i64,.at 800000001,.int .i64,.bool,.bool])],[(800000000,tM,(.pr (.ow .fz) (.pr (.ow (.pr .fz .fz)) (.pr .fz (.ow .fz))))),(800000001,tW,(.pr .fz .fz))]⟩
def ygI:Shape:=⟨[(0,false,[.ptr 1000000000 0])],[(1000000000,[.int .i64,.int .i64,.int .i64,.at 800000000,.int .i64,.int .i64,.int .i64,.int .i64,.int .i64,.at 800000001,.int .i64,.bool,.bool])],[(800000000,tM,(.pr (.ow .fz) (.pr (.ow (.pr .fz .fz)) (.pr .fz (.ow .fz))))),(800000001,tW,(.pr .fz .fz))]⟩
def ymr:Shape:=⟨[],[],[]⟩
abbrev ysD (v0:Int) (v1:dA):(yb7).X:=((((),()),(v0,()),()),((v1.1,v1.2.1.1,v1.2.1.2,(),v1.2.2.2.1,v1.2.2.2.2.1,v1.2.2.2.2.2.1,v1.2.2.2.2.2.2.1,v1.2.2.2.2.2.2.2.1,(),v1.2.2.2.2.2.2.2.2.2.1,v1.2.2.2.2.2.2.2.2.2.2.1,v1.2.2.2.2.2.2.2.2.2.2.2,()),()),(v1.2.2.1,v1.2.2.2.2.2.2.2.2.1,()))
abbrev yOI (v0:dA):(ygQ).X:=((((),()),((),()),()),((v0.1,v0.2.1.1,v0.2.1.2,(),v0.2.2.2.1,v0.2.2.2.2.1,v0.2.2.2.2.2.1,v0.2.2.2.2.2.2.1,v0.2.2.2.2.2.2.2.1,(),v0.2.2.2.2.2.2.2.2.2.1,v0.2.2.2.2.2.2.2.2.2.2.1,v0.2.2.2.2.2.2.2.2.2.2.2,()),()),(v0.2.2.1,v0.2.2.2.2.2.2.2.2.1,()))
abbrev yCm (v0:dA):(ygI).X:=((((),()),()),((v0.1,v0.2.1.1,v0.2.1.2,(),v0.2.2.2.1,v0.2.2.2.2.1,v0.2.2.2.2.2.1,v0.2.2.2.2.2.2.1,v0.2.2.2.2.2.2.2.1,(),v0.2.2.2.2.2.2.2.2.2.1,v0.2.2.2.2.2.2.2.2.2.2.1,v0.2.2.2.2.2.2.2.2.2.2.2,()),()),(v0.2.2.1,v0.2.2.2.2.2.2.2.2.1,()))
def ysZ (v0:Int) (v1:Int) (v2:Int) (v3:Int) (v4:Int) (v5:Int) (v6:Int) (v7:Int) (v8:Int) (v9:Int) (v10:Bool) (v11:Bool) (v12:List dM) (v13:List dW):Option ((yb7).X ⊕ ((ygI).X ⊕ (ymr).X)) :=
  bif (ltb v0 (v12.length:Int)) then
    let r3:=yax (v1,v8,v0,v2,v3,v7,v4,v5)
    bnd (yha (v1,(v2,v3),v12,v4,v5,v6,v7,v8,v13,v9,v10,v11) v0 (v8.tmod 2) r3) fun r4 =>
    some (.inl ((((),()),((IntKind.i64.wrap (v0+1)),()),()),((r4.2.1.1,r4.2.1.2.1.1,r4.2.1.2.1.2,(),r4.2.1.2.2.2.1,r4.2.1.2.2.2.2.1,r4.2.1.2.2.2.2.2.1,r4.2.1.2.2.2.2.2.2.1,r4.2.1.2.2.2.2.2.2.2.1,(),r4.2.1.2.2.2.2.2.2.2.2.2.1,r4.2.1.2.2.2.2.2.2.2.2.2.2.1,r4.2.1.2.2.2.2.2.2.2.2.2.2.2,()),()),(r4.2.1.2.2.1,r4.2.1.2.2.2.2.2.2.2.2.1,())))
  else
    some (.inr (.inl ((((),()),()),((v1,v2,v3,(),v4,v5,v6,v7,v8,(),v9,v10,v11,()),()),(v12,v13,()))))
def ycD (x:(yb7).X):=ysZ x.1.2.1.1 x.2.1.1.1 x.2.1.1.2.1 x.2.1.1.2.2.1 x.2.1.1.2.2.2.2.1 x.2.1.1.2.2.2.2.2.1 x.2.1.1.2.2.2.2.2.2.1 x.2.1.1.2.2.2.2.2.2.2.1 x.2.1.1.2.2.2.2.2.2.2.2.1 x.2.1.1.2.2.2.2.2.2.2.2.2.2.1 x.2.1.1.2.2.2.2.2.2.2.2.2.2.2.1 x.2.1.1.2.2.2.2.2.2.2.2.2.2.2.2.1 x.2.2.1 x.2.2.2.1
def yB4 (x:(ygQ).X):(yb7).X:=((((),()),(0,()),()),((x.2.1.1.1,x.2.1.1.2.1,x.2.1.1.2.2.1,(),x.2.1.1.2.2.2.2.1,x.2.1.1.2.2.2.2.2.1,x.2.1.1.2.2.2.2.2.2.1,x.2.1.1.2.2.2.2.2.2.2.1,x.2.1.1.2.2.2.2.2.2.2.2.1,(),x.2.1.1.2.2.2.2.2.2.2.2.2.2.1,x.2.1.1.2.2.2.2.2.2.2.2.2.2.2.1,x.2.1.1.2.2.2.2.2.2.2.2.2.2.2.2.1,()),()),(x.2.2.1,x.2.2.2.1,()))
def yDF:Code:=(zdI ynj 64 52).getD .skip
theorem yQn:zdI ynj 64 13=some (.block 0 (.loop yDF)):=by kernel_rfl
theorem yTi (x:(yb7).X):zg7 ⟨ytt,63,yFL⟩ 0 yDF 52 yb7 ygI ymr x=ycD x:=by kernel_rfl
def yCi (x:(ygQ).X):Nat:=(fun (u0:Int) (u1:Int) (u2:Int) (u3:Int) (u4:Int) (u5:Int) (u6:Int) (u7:Int) (u8:Int) (u9:Bool) (u10:Bool) (u11:List dM) (u12:List dW)=>18446744073709551616) x.2.1.1.1 x.2.1.1.2.1 x.2.1.1.2.2.1 x.2.1.1.2.2.2.2.1 x.2.1.1.2.2.2.2.2.1 x.2.1.1.2.2.2.2.2.2.1 x.2.1.1.2.2.2.2.2.2.2.1 x.2.1.1.2.2.2.2.2.2.2.2.1 x.2.1.1.2.2.2.2.2.2.2.2.2.2.1 x.2.1.1.2.2.2.2.2.2.2.2.2.2.2.1 x.2.1.1.2.2.2.2.2.2.2.2.2.2.2.2.1 x.2.2.1 x.2.2.2.1
def yuo (x:(ygQ).X):Option ((ygI).X ⊕ (ymr).X):=zr ycD (yCi x) (yB4 x)
def yCz:Seg:=⟨ygQ,ygI,ymr,yuo⟩
def yFM:Nat→Option Seg:=fun q=>bif Nat.beq q 13 then some yCz else yFL q
theorem yRk:FrOk Tryz.prog ⟨ytt,63,yFM⟩ ynj:=(yRj).loop (sg:=yCz) yb7 yB4 (by decide) yQn ycD yCi (by decide) (fun _=>rfl) (fun x r _ h=>h) yTi
abbrev yhM:List Par:= [.pt tA (.pr .fz (.pr (.pr .fz .fz) (.pr (.ow (.pr (.ow .fz) (.pr (.ow (.pr .fz .fz)) (.pr .fz (.ow .fz))))) (.pr .fz (.pr .fz (.pr .fz (.pr .fz (.pr .fz (.pr (.ow (.pr .fz .fz)) (.pr .fz (.pr .fz .fz)))))))))))]
abbrev yt0:List OT:= []
def ypS (a0:dA):Option (ResD yt0×MutD yhM) :=
  zjw (yuo ((((),()),((),()),()),((a0.1,a0.2.1.1,a0.2.1.2,(),a0.2.2.2.1,a0.2.2.2.2.1,a0.2.2.2.2.2.1,a0.2.2.2.2.2.2.1,(IntKind.i64.wrap (a0.2.2.2.2.2.2.2.1+1)),(),a0.2.2.2.2.2.2.2.2.2.1,a0.2.2.2.2.2.2.2.2.2.2.1,a0.2.2.2.2.2.2.2.2.2.2.2,()),()),(a0.2.2.1,a0.2.2.2.2.2.2.2.2.1,()))) (fun y4 =>
    let r6:=ydB (y4.2.1.1.1,(y4.2.1.1.2.1,y4.2.1.1.2.2.1),y4.2.2.1,y4.2.1.1.2.2.2.2.1,y4.2.1.1.2.2.2.2.2.1,y4.2.1.1.2.2.2.2.2.2.1,y4.2.1.1.2.2.2.2.2.2.2.1,y4.2.1.1.2.2.2.2.2.2.2.2.1,y4.2.2.2.1,y4.2.1.1.2.2.2.2.2.2.2.2.2.2.1,y4.2.1.1.2.2.2.2.2.2.2.2.2.2.2.1,y4.2.1.1.2.2.2.2.2.2.2.2.2.2.2.2.1)
    some ((),(r6,()))) (fun y4 =>
    none)
theorem yZ5 (x:InD yhM):zjH ⟨ytt,63,yFM⟩ Tryz.f228.results.toList ynj yhM yt0 x=ypS x.1:=by kernel_rfl
theorem yWa:ConOk Tryz.prog 228 ⟨yhM,yt0,fun x=>ypS x.1⟩:=zkh (yRk) Tryz.func228 (by kernel_rfl) (by kernel_rfl) Tryz.ntmps228.symm (by decide) (fun x r h=>(yZ5 x).trans h)
def yhV (a0:dA):dA:=yhp a0
theorem yPZ (a:dA) (i:Nat):(ya0 a i).2.2.1.length=a.2.2.1.length:=yCL _ _ _ _
theorem yYm (a0:dA) (hk:zi9 yhM (a0,())):ypS a0=(fun n=>some ((),(n,()))) (yhV a0):=by
  have hb:a0.2.2.1.length * 80≤2 ^ 47:=hk.1.2.2.1.1
  have h1:yuo (yOI (ypv a0))=some (.inl (yCm ((List.range a0.2.2.1.length).foldl ya0 (ypv a0)))) :=
    zks (step:=ycD) a0.2.2.1.length (fun i s=>ysD i s) ya0 (fun _ s=>s.2.2.1.length=a0.2.2.1.length) (fun s=> .inl (yCm s)) (fun i s hi hs=>⟨by
      simp only [ycD,ysD,ysZ,hs,zjI (show (i:Int) < a0.2.2.1.length by omega),cond_true,wr (show -9223372036854775808≤(i:Int)+1 by omega) (by omega),Int.natCast_add,Int.natCast_one,Int.toNat_natCast,zkV]
      rw [yt7 s i (s.2.2.2.2.2.2.2.1.tmod 2) (yax (s.1,s.2.2.2.2.2.2.2.1,(i:Int),s.2.1.1,s.2.1.2,s.2.2.2.2.2.2.1,s.2.2.2.1,s.2.2.2.2.1)) (zkO (by rw [hs]; exact hi))]
      rfl,(yPZ s i).trans hs⟩) (fun s hs=>by simp only [ycD,ysD,ysZ,hs,zkm (Int.le_refl _),cond_false]) (ypv a0) rfl _ (by show _ < 18446744073709551616; omega)
  unfold ypS yhV yhp
  exact (congrArg (fun z=>zjw z _ _) h1).trans rfl
def yGF:Con:=⟨yhM,yt0,fun x=>(fun n=>some ((),(n,()))) (yhV x.1)⟩
theorem yY8:ConOk Tryz.prog 228 yGF:=(yWa).mono (fun x r hk h=>(yYm x.1 hk).trans h)
end
section
def yHl:Code:=(Tryz.f163.body).getD .skip
def yHP:Env:=zki TT [(224,ypu),(228,yGF)] []
theorem yOv:FrOk Tryz.prog ⟨yHP,17,fun _=>none⟩ yHl:=zkp yb yc ⟨yyp,yY8,trivial⟩
def yP9:Nat→Option Seg:=fun _=>none
abbrev ylf:List Par:= [.pt tA (.pr .fz (.pr (.pr .fz .fz) (.pr (.ow (.pr (.ow .fz) (.pr (.ow (.pr .fz .fz)) (.pr .fz (.ow .fz))))) (.pr .fz (.pr .fz (.pr .fz (.pr .fz (.pr .fz (.pr (.ow (.pr .fz .fz)) (.pr .fz (.pr .fz .fz)))))))))))]
abbrev yrG:List OT:= []
def yuS (a0:dA):Option (ResD yrG×MutD ylf) :=
  let r1:=ydB a0
  bif r1.2.2.2.2.2.2.2.2.2.2.1 then
    some ((),(r1,()))
  else
    let r2:=yhV (r1.1,r1.2.1,r1.2.2.1,r1.2.2.2.1,r1.2.2.2.2.1,r1.2.2.2.2.2.1,r1.2.2.2.2.2.1,r1.2.2.2.2.2.2.2)
    some ((),(r2,()))
theorem yXz (x:InD ylf):zjH ⟨yHP,17,yP9⟩ Tryz.f163.results.toList yHl ylf yrG x=yuS x.1:=by kernel_rfl
theorem ySH:ConOk Tryz.prog 163 ⟨ylf,yrG,fun x=>yuS x.1⟩:=zkh (yOv) Tryz.func163 (by kernel_rfl) (by kernel_rfl) Tryz.ntmps163.symm (by decide) (fun x r h=>(yXz x).trans h)
def ylJ (a0:dA):dA :=
  let r1:=ydB a0
  bif r1.2.2.2.2.2.2.2.2.2.2.1 then
    r1
  else
    let r2:=yhV (r1.1,r1.2.1,r1.2.2.1,r1.2.2.2.1,r1.2.2.2.2.1,r1.2.2.2.2.2.1,r1.2.2.2.2.2.1,r1.2.2.2.2.2.2.2)
    r2
def yD0:Con:=⟨ylf,yrG,fun x=>(fun n=>some ((),(n,()))) (ylJ x.1)⟩
theorem yVC (a0:dA):yuS a0=(fun n=>some ((),(n,()))) (ylJ a0):=zkS (p:=fun (n:dA)=>((),(n,()))) (zkx (p:=fun (n:dA)=>((),(n,()))) rfl rfl)
theorem yWw:ConOk Tryz.prog 163 yD0:=(ySH).mono (fun x r _ h=>(yVC x.1).trans h)
theorem y0S (a:dA):ylJ a=y9 a:=by
  unfold ylJ y9 ydB yhV
  show (bif ye (yN a) then yN a else yhp (ytj (yN a)))=_
  rfl
end
section
def yh9:Code:=(Tryz.f83.body).getD .skip
def yoO:Env:=zki TT [(160,yDX),(161,yH6),(162,yGE),(163,yD0)] []
theorem yL9:FrOk Tryz.prog ⟨yoO,56,fun _=>none⟩ yh9:=zkp yb yc ⟨yWt,y0Q,yY7,yWw,trivial⟩
def yBc:Nat→Option Seg:=fun _=>none
def ybu:Shape:=⟨[(0,false,[.ptr 1000000000 0]),(2,false,[.int .i64])],[(1000000000,[.int .i64,.int .i64,.int .i64,.at 800000000,.int .i64,.int .i64,.int .i64,.int .i64,.int .i64,.at 800000001,.int .i64,.bool,.bool])],[(800000000,tM,(.pr (.ow .fz) (.pr (.ow (.pr .fz .fz)) (.pr .fz (.ow .fz))))),(800000001,tW,(.pr .fz .fz))]⟩
def yfS:Shape:=⟨[(0,false,[.ptr 1000000000 0]),(2,false,[.ci .i64 0])],[(1000000000,[.int .i64,.int .i64,.int .i64,.at 800000000,.int .i64,.int .i64,.int .i64,.int .i64,.int .i64,.at 800000001,.int .i64,.bool,.bool])],[(800000000,tM,(.pr (.ow .fz) (.pr (.ow (.pr .fz .fz)) (.pr .fz (.ow .fz))))),(800000001,tW,(.pr .fz .fz))]⟩
def yfH:Shape:=⟨[(0,false,[.ptr 1000000000 0])],[(1000000000,[.int .i64,.int .i64,.int .i64,.at 800000000,.int .i64,.int .i64,.int .i64,.int .i64,.int .i64,.at 800000001,.int .i64,.bool,.bool])],[(800000000,tM,(.pr (.ow .fz) (.pr (.ow (.pr .fz .fz)) (.pr .fz (.ow .fz))))),(800000001,tW,(.pr .fz .fz))]⟩
def yfY:Shape:=⟨[],[(1000000000,[.int .i64,.int .i64,.int .i64,.at 800000000,.int .i64,.int .i64,.int .i64,.int .i64,.int .i64,.at 800000001,.int .i64,.bool,.bool])],[(800000000,tM,(.pr (.ow .fz) (.pr (.ow (.pr .fz .fz)) (.pr .fz (.ow .fz))))),(800000001,tW,(.pr .fz .fz))]⟩
abbrev yjj (v0:Int) (v1:dA):(ybu).X:=((((),()),(v0,()),()),((v1.1,v1.2.1.1,v1.2.1.2,(),v1.2.2.2.1,v1.2.2.2.2.1,v1.2.2.2.2.2.1,v1.2.2.2.2.2.2.1,v1.2.2.2.2.2.2.2.1,(),v1.2.2.2.2.2.2.2.2.2.1,v1.2.2.2.2.2.2.2.2.2.2.1,v1.2.2.2.2.2.2.2.2.2.2.2,()),()),(v1.2.2.1,v1.2.2.2.2.2.2.2.2.1,()))
abbrev yMv (v0:dA):(yfS).X:=((((),()),((),()),()),((v0.1,v0.2.1.1,v0.2.1.2,(),v0.2.2.2.1,v0.2.2.2.2.1,v0.2.2.2.2.2.1,v0.2.2.2.2.2.2.1,v0.2.2.2.2.2.2.2.1,(),v0.2.2.2.2.2.2.2.2.2.1,v0.2.2.2.2.2.2.2.2.2.2.1,v0.2.2.2.2.2.2.2.2.2.2.2,()),()),(v0.2.2.1,v0.2.2.2.2.2.2.2.2.1,()))
abbrev yMk (v0:dA):(yfH).X:=((((),()),()),((v0.1,v0.2.1.1,v0.2.1.2,(),v0.2.2.2.1,v0.2.2.2.2.1,v0.2.2.2.2.2.1,v0.2.2.2.2.2.2.1,v0.2.2.2.2.2.2.2.1,(),v0.2.2.2.2.2.2.2.2.2.1,v0.2.2.2.2.2.2.2.2.2.2.1,v0.2.2.2.2.2.2.2.2.2.2.2,()),()),(v0.2.2.1,v0.2.2.2.2.2.2.2.2.1,()))
abbrev yqH (v0:dA):(yfY).X:=((),((v0.1,v0.2.1.1,v0.2.1.2,(),v0.2.2.2.1,v0.2.2.2.2.1,v0.2.2.2.2.2.1,v0.2.2.2.2.2.2.1,v0.2.2.2.2.2.2.2.1,(),v0.2.2.2.2.2.2.2.2.2.1,v0.2.2.2.2.2.2.2.2.2.2.1,v0.2.2.2.2.2.2.2.2.2.2.2,()),()),(v0.2.2.1,v0.2.2.2.2.2.2.2.2.1,()))
def yq4 (v0:Int) (v1:Int) (v2:Int) (v3:Int) (v4:Int) (v5:Int) (v6:Int) (v7:Int) (v8:Int) (v9:Int) (v10:Bool) (v11:Bool) (v12:List dM) (v13:List dW):Option ((ybu).X ⊕ ((yfH).X ⊕ (yfY).X)) :=
  bif (ltb v0 4) then
    bnd (yrS (v1,(v2,v3),v12,v4,v5,v6,v7,v8,v13,v9,v10,v11) v6) fun r4 =>
    bif (!(!r4.1.2.1)) then
      bif (leb 60000 v6) then
        some (.inr (.inl ((((),()),()),((v1,v2,v3,(),v4,v5,v6,v7,v8,(),v9,v10,v11,()),()),(v12,v13,()))))
      else
        let r5:=yqJ (v1,(v2,v3),v12,v4,v5,v6,v7,v8,v13,v9,v10,v11) r4.1.1
        bif r5.2.2.2.2.2.2.2.2.2.2.1 then
          some (.inr (.inr ((),((r5.1,r5.2.1.1,r5.2.1.2,(),r5.2.2.2.1,r5.2.2.2.2.1,r5.2.2.2.2.2.1,r5.2.2.2.2.2.2.1,r5.2.2.2.2.2.2.2.1,(),r5.2.2.2.2.2.2.2.2.2.1,r5.2.2.2.2.2.2.2.2.2.2.1,r5.2.2.2.2.2.2.2.2.2.2.2,()),()),(r5.2.2.1,r5.2.2.2.2.2.2.2.2.1,()))))
        else
          bnd (ynR (r5.1,r5.2.1,r5.2.2.1,r5.2.2.2.1,r5.2.2.2.2.1,(IntKind.i64.wrap (r5.2.2.2.2.2.1+1)),r5.2.2.2.2.2.2) r4.1.1.2.1 r4.1.1.2.2) fun r6 =>
          bif r6.2.1.2.2.2.2.2.2.2.2.2.2.1 then
            some (.inr (.inr ((),((r6.2.1.1,r6.2.1.2.1.1,r6.2.1.2.1.2,(),r6.2.1.2.2.2.1,r6.2.1.2.2.2.2.1,r6.2.1.2.2.2.2.2.1,r6.2.1.2.2.2.2.2.2.1,r6.2.1.2.2.2.2.2.2.2.1,(),r6.2.1.2.2.2.2.2.2.2.2.2.1,r6.2.1.2.2.2.2.2.2.2.2.2.2.1,r6.2.1.2.2.2.2.2.2.2.2.2.2.2,()),()),(r6.2.1.2.2.1,r6.2.1.2.2.2.2.2.2.2.2.1,()))))
          else
            some (.inl ((((),()),((IntKind.i64.wrap (v0+1)),()),()),((r6.2.1.1,r6.2.1.2.1.1,r6.2.1.2.1.2,(),r6.2.1.2.2.2.1,r6.2.1.2.2.2.2.1,r6.2.1.2.2.2.2.2.1,r6.2.1.2.2.2.2.2.2.1,r6.2.1.2.2.2.2.2.2.2.1,(),r6.2.1.2.2.2.2.2.2.2.2.2.1,r6.2.1.2.2.2.2.2.2.2.2.2.2.1,r6.2.1.2.2.2.2.2.2.2.2.2.2.2,()),()),(r6.2.1.2.2.1,r6.2.1.2.2.2.2.2.2.2.2.1,())))
    else
      some (.inr (.inl ((((),()),()),((v1,v2,v3,(),v4,v5,v6,v7,v8,(),v9,v10,v11,()),()),(v12,v13,()))))
  else
    some (.inr (.inl ((((),()),()),((v1,v2,v3,(),v4,v5,v6,v7,v8,(),v9,v10,v11,()),()),(v12,v13,()))))
def ybT (x:(ybu).X):=yq4 x.1.2.1.1 x.2.1.1.1 x.2.1.1.2.1 x.2.1.1.2.2.1 x.2.1.1.2.2.2.2.1 x.2.1.1.2.2.2.2.2.1 x.2.1.1.2.2.2.2.2.2.1 x.2.1.1.2.2.2.2.2.2.2.1 x.2.1.1.2.2.2.2.2.2.2.2.1 x.2.1.1.2.2.2.2.2.2.2.2.2.2.1 x.2.1.1.2.2.2.2.2.2.2.2.2.2.2.1 x.2.1.1.2.2.2.2.2.2.2.2.2.2.2.2.1 x.2.2.1 x.2.2.2.1
def yzI (x:(yfS).X):(ybu).X:=((((),()),(0,()),()),((x.2.1.1.1,x.2.1.1.2.1,x.2.1.1.2.2.1,(),x.2.1.1.2.2.2.2.1,x.2.1.1.2.2.2.2.2.1,x.2.1.1.2.2.2.2.2.2.1,x.2.1.1.2.2.2.2.2.2.2.1,x.2.1.1.2.2.2.2.2.2.2.2.1,(),x.2.1.1.2.2.2.2.2.2.2.2.2.2.1,x.2.1.1.2.2.2.2.2.2.2.2.2.2.2.1,x.2.1.1.2.2.2.2.2.2.2.2.2.2.2.2.1,()),()),(x.2.2.1,x.2.2.2.1,()))
def yBy:Code:=(zdI yh9 64 20).getD .skip
theorem yNJ:zdI yh9 64 5=some (.block 0 (.loop yBy)):=by kernel_rfl
theorem yPL (x:(ybu).X):zg7 ⟨yoO,56,yBc⟩ 0 yBy 20 ybu yfH yfY x=ybT x:=by kernel_rfl
def yz1 (x:(yfS).X):Nat:=(fun (u0:Int) (u1:Int) (u2:Int) (u3:Int) (u4:Int) (u5:Int) (u6:Int) (u7:Int) (u8:Int) (u9:Bool) (u10:Bool) (u11:List dM) (u12:List dW)=>18446744073709551616) x.2.1.1.1 x.2.1.1.2.1 x.2.1.1.2.2.1 x.2.1.1.2.2.2.2.1 x.2.1.1.2.2.2.2.2.1 x.2.1.1.2.2.2.2.2.2.1 x.2.1.1.2.2.2.2.2.2.2.1 x.2.1.1.2.2.2.2.2.2.2.2.1 x.2.1.1.2.2.2.2.2.2.2.2.2.2.1 x.2.1.1.2.2.2.2.2.2.2.2.2.2.2.1 x.2.1.1.2.2.2.2.2.2.2.2.2.2.2.2.1 x.2.2.1 x.2.2.2.1
def yss (x:(yfS).X):Option ((yfH).X ⊕ (yfY).X):=zr ybT (yz1 x) (yzI x)
def yAr:Seg:=⟨yfS,yfH,yfY,yss⟩
def yBd:Nat→Option Seg:=fun q=>bif Nat.beq q 5 then some yAr else yBc q
theorem yMa:FrOk Tryz.prog ⟨yoO,56,yBd⟩ yh9:=(yL9).loop (sg:=yAr) ybu yzI (by decide) yNJ ybT yz1 (by decide) (fun _=>rfl) (fun x r _ h=>h) yPL
abbrev ycI:List Par:= [.pt tA (.pr .fz (.pr (.pr .fz .fz) (.pr (.ow (.pr (.ow .fz) (.pr (.ow (.pr .fz .fz)) (.pr .fz (.ow .fz))))) (.pr .fz (.pr .fz (.pr .fz (.pr .fz (.pr .fz (.pr (.ow (.pr .fz .fz)) (.pr .fz (.pr .fz .fz)))))))))))]
abbrev yiU:List OT:= []
def ykG (a0:dA):Option (ResD yiU×MutD ycI) :=
  zjw (yss ((((),()),((),()),()),((a0.1,a0.2.1.1,a0.2.1.2,(),a0.2.2.2.1,a0.2.2.2.2.1,a0.2.2.2.2.2.1,a0.2.2.2.2.2.2.1,a0.2.2.2.2.2.2.2.1,(),a0.2.2.2.2.2.2.2.2.2.1,a0.2.2.2.2.2.2.2.2.2.2.1,a0.2.2.2.2.2.2.2.2.2.2.2,()),()),(a0.2.2.1,a0.2.2.2.2.2.2.2.2.1,()))) (fun y6 =>
    let r8:=ylJ (y6.2.1.1.1,(y6.2.1.1.2.1,y6.2.1.1.2.2.1),y6.2.2.1,y6.2.1.1.2.2.2.2.1,y6.2.1.1.2.2.2.2.2.1,y6.2.1.1.2.2.2.2.2.2.1,y6.2.1.1.2.2.2.2.2.2.2.1,y6.2.1.1.2.2.2.2.2.2.2.2.1,y6.2.2.2.1,y6.2.1.1.2.2.2.2.2.2.2.2.2.2.1,y6.2.1.1.2.2.2.2.2.2.2.2.2.2.2.1,y6.2.1.1.2.2.2.2.2.2.2.2.2.2.2.2.1)
    some ((),(r8,()))) (fun y6 =>
    some ((),((y6.2.1.1.1,(y6.2.1.1.2.1,y6.2.1.1.2.2.1),y6.2.2.1,y6.2.1.1.2.2.2.2.1,y6.2.1.1.2.2.2.2.2.1,y6.2.1.1.2.2.2.2.2.2.1,y6.2.1.1.2.2.2.2.2.2.2.1,y6.2.1.1.2.2.2.2.2.2.2.2.1,y6.2.2.2.1,y6.2.1.1.2.2.2.2.2.2.2.2.2.2.1,y6.2.1.1.2.2.2.2.2.2.2.2.2.2.2.1,y6.2.1.1.2.2.2.2.2.2.2.2.2.2.2.2.1),())))
theorem yUp (x:InD ycI):zjH ⟨yoO,56,yBd⟩ Tryz.f83.results.toList yh9 ycI yiU x=ykG x.1:=by kernel_rfl
theorem yPk:ConOk Tryz.prog 83 ⟨ycI,yiU,fun x=>ykG x.1⟩:=zkh (yMa) Tryz.func83 (by kernel_rfl) (by kernel_rfl) Tryz.ntmps83.symm (by decide) (fun x r h=>(yUp x).trans h)
def yjw (a0:dA):dA:=yNa a0
def yjz (a0:dA):Bool:=yg a0.2.1&&(a0.2.2.1.length:Int)==a0.2.1.1
theorem ySh (a0:dA) (hk:zi9 ycI (a0,())) (hq:yjz a0=true):ykG a0=(fun n=>some ((),(n,()))) (yjw a0):=by
  simp only [yjz,Bool.and_eq_true,beq_iff_eq]at hq
  have h1:=zkr (step:=ybT) 4 (fun i s=>yjj i s) yuU (fun _ s=>s.2.1=a0.2.1∧s.2.2.1.length=a0.2.2.1.length) .inl
    (fun b=>match b with | .inl x=> .inl (yMk x) | .inr x=> .inr (yqH x)) (fun i s hi hs=>by
      constructor
      · simp only [ybT,yjj,yq4,zjI (show (i:Int) < 4 by omega),cond_true,wr (show -9223372036854775808≤(i:Int)+1 by omega) (by omega),Int.natCast_add,Int.natCast_one,Int.toNat_natCast,zkV]
        rw [yWz s s.2.2.2.2.2.1 (by unfold yrW; rw [hs.1]; exact hq.1)]
        simp only [zky,ylF,yqJ]
        unfold yuU
        cases hf:(yA s s.2.2.2.2.2.1).2
        · rfl
        · cases leb 60000 s.2.2.2.2.2.1
          · have ho:=y11 (a:=s) (q:=s.2.2.2.2.2.1) (by rw [hs.1]; exact hq.1) hf
            have hd:ynR (yua (yf6 s)) (yA s s.2.2.2.2.2.1).1.2.1 (yA s s.2.2.2.2.2.1).1.2.2=some ((),(yqM s,())):=yZc _ _ _ (by
              unfold ynT
              simp only [Bool.and_eq_true,beq_iff_eq]
              rw [show (yua (yf6 s)).2.1=s.2.1 from yTk s]
              exact ⟨ho.1,ho.2,by rw [show (yua (yf6 s)).2.2.1.length=s.2.2.1.length from yZf s _,hs.2,hq.2,hs.1]⟩)
            have h1:yHb s (yA s s.2.2.2.2.2.1).1=yf6 s:=rfl
            rw [h1]
            generalize yqM s=R2 at hd ⊢
            generalize yf6 s=R1 at hd ⊢
            generalize yA s s.2.2.2.2.2.1=F at hd ⊢
            unfold yua at hd
            simp only [Bool.not_true,Bool.not_false,cond_true,cond_false,Bool.or_self,hd,zky]
            show (bif ye R1 then some (Sum.inr (Sum.inr (yqH R1))) else bif ye R2 then some (Sum.inr (Sum.inr (yqH R2))) else some (Sum.inl (yjj ((i:Int)+1) R2)))=_
            cases ye R1
            · cases ye R2<;>rfl
            · rfl
          · rfl
      · intro s' h
        unfold yuU at h
        cases hc:(!(yA s s.2.2.2.2.2.1).2||leb 60000 s.2.2.2.2.2.1)
        · rw [hc]at h
          cases hd1:ye (yf6 s)
          · rw [hd1]at h
            cases hd2:ye (yqM s)
            · rw [hd2]at h
              simp only [cond_false,Sum.inl.injEq]at h
              subst h
              exact ⟨(y1B s).trans hs.1,(y1C s).trans hs.2⟩
            · rw [hd2]at h; cases h
          · rw [hd1]at h; cases h
        · rw [hc]at h; cases h) (fun s hs=>by simp only [ybT,yjj,yq4]; rfl) a0 ⟨rfl,rfl⟩ 18446744073709551616 (by omega)
  unfold ykG yjw yNa
  refine (congrArg (fun z=>zjw z _ _) (show yss (yMv a0)=_ from h1)).trans ?_
  cases goE yuU .inl 4 0 a0 with
  | inl b=>simp only [zkJ,y0S]
  | inr b=>rfl
def ypx (a0:dA):Option (ResD yiU×MutD ycI):=bif yjz a0 then (fun n=>some ((),(n,()))) (yjw a0) else none
theorem yS3 (a0:dA) (h:yjz a0=true):ypx a0=(fun n=>some ((),(n,()))) (yjw a0):=by unfold ypx; rw [h]; rfl
def yBR:Con:=⟨ycI,yiU,fun x=>ypx x.1⟩
theorem yS1:ConOk Tryz.prog 83 yBR:=(yPk).mono (fun x r hk h=>zkW h (fun hq=>ySh x.1 hk hq))
end
end
end Go.Tf
