/- Functions of the program, and what they come to. -/
import Derived.Test.YtfpjmijaiekbgaaGreatExactBuildAllF10
namespace Go.Tf
noncomputable section
open Go.Proofs
set_option synthInstance.maxHeartbeats 400000
set_option synthInstance.maxSize 10000
set_option linter.unusedVariables false
set_option linter.unusedSimpArgs false
set_option maxRecDepth 100000
section
def yFw:Code:=(Tryz.f149.body).getD .skip
def yFX:Env:=zki TT [(213,ywu),(214,yxD)] []
theorem yOs:FrOk Tryz.prog ⟨yFX,43,fun _=>none⟩ yFw:=zkp yb yc ⟨yHl,yMw,trivial⟩
def yQn:Nat→Option Seg:=fun _=>none
abbrev yfu:List Par:= [.pt tA (.pr .fz (.pr (.pr .fz .fz) (.pr (.ow (.pr (.ow .fz) (.pr (.ow (.pr .fz .fz)) (.pr .fz (.ow .fz))))) (.pr .fz (.pr .fz (.pr .fz (.pr .fz (.pr .fz (.pr (.ow (.pr .fz .fz)) (.pr .fz (.pr .fz .fz))))))))))),.rd tI,.rd tI,.rd tL]
abbrev ynK:List OT:= []
def ypn (a0:dA) (a1:Int) (a2:Int) (a3:List Int):Option (ResD ynK×MutD yfu) :=
  bif (inb a1 a0.2.2.1.length) then
    bif (!((((nth a0.2.2.1 a1 ([],[],false,[])).2).2).1)) then
      let r1:=yqn a0
      bif (!r1.1) then
        some ((),(r1.2,()))
      else
        bif (inb a1 r1.2.2.2.1.length) then
          let r2:=yhX ((nth r1.2.2.2.1 a1 ([],[],false,[])).1,((nth r1.2.2.2.1 a1 ([],[],false,[])).2).1,(((nth r1.2.2.2.1 a1 ([],[],false,[])).2).2)) a2 a3
          bif (inb a1 r1.2.2.2.1.length) then
            some ((),((r1.2.1,r1.2.2.1,(r1.2.2.2.1.set (a1).toNat r2.1),r1.2.2.2.2),()))
          else none
        else none
    else
      some ((),(a0,()))
  else none
theorem yUL (x:InD yfu):zjH ⟨yFX,43,yQn⟩ Tryz.f149.results.toList yFw yfu ynK x=ypn x.1 x.2.1 x.2.2.1 x.2.2.2.1:=by kernel_rfl
theorem yRV:ConOk Tryz.prog 149 ⟨yfu,ynK,fun x=>ypn x.1 x.2.1 x.2.2.1 x.2.2.2.1⟩:=zkh (yOs) Tryz.func149 (by kernel_rfl) (by kernel_rfl) Tryz.ntmps149.symm (by decide) (fun x r h=>(yUL x).trans h)
def yn6 (a0:dA) (a1 a2:Int) (a3:List Int):dA:=yic a0 a1 a2 a3
def yAu (a0:dA) (a1 a2:Int) (a3:List Int):Bool:=inb a1 a0.2.2.1.length
theorem yTF (a0:dA) (a1 a2:Int) (a3:List Int) (hk:zi9 yfu (a0,a1,a2,a3,())) (hq:yAu a0 a1 a2 a3=true):ypn a0 a1 a2 a3=(fun n=>some ((),(n,()))) (yn6 a0 a1 a2 a3):=by
  have hq:inb a1 a0.2.2.1.length=true:=hq
  unfold ypn yn6 yic yAv
  simp only [yP0,ydq,hq,zkV,yhX]
  cases (nth a0.2.2.1 a1 yf).2.2.1<;>cases (opA a0).1<;>rfl
def yn7 (a0:dA) (a1:Int) (a2:Int) (a3:List Int):Option (ResD ynK×MutD yfu):=bif yAu a0 a1 a2 a3 then (fun n=>some ((),(n,()))) (yn6 a0 a1 a2 a3) else none
theorem yEC (a0:dA) (a1:Int) (a2:Int) (a3:List Int) (h:yAu a0 a1 a2 a3=true):yn7 a0 a1 a2 a3=(fun n=>some ((),(n,()))) (yn6 a0 a1 a2 a3):=by unfold yn7; rw [h]; rfl
def yuw:Con:=⟨yfu,ynK,fun x=>yn7 x.1 x.2.1 x.2.2.1 x.2.2.2.1⟩
theorem yEB:ConOk Tryz.prog 149 yuw:=(yRV).mono (fun x r hk h=>zkW h (fun hq=>yTF x.1 x.2.1 x.2.2.1 x.2.2.2.1 hk hq))
end
section
def yCp:Code:=(Tryz.f75.body).getD .skip
def yCP:Env:=zki TT [(148,yzS),(149,yuw),(150,ys7)] []
theorem yIy:FrOk Tryz.prog ⟨yCP,49,fun _=>none⟩ yCp:=zkp yb yc ⟨yPG,yEB,yDw,trivial⟩
def yJ3:Nat→Option Seg:=fun _=>none
abbrev ydb:List Par:= [.pt tA (.pr .fz (.pr (.pr .fz .fz) (.pr (.ow (.pr (.ow .fz) (.pr (.ow (.pr .fz .fz)) (.pr .fz (.ow .fz))))) (.pr .fz (.pr .fz (.pr .fz (.pr .fz (.pr .fz (.pr (.ow (.pr .fz .fz)) (.pr .fz (.pr .fz .fz)))))))))))]
abbrev yjC:List OT:= [⟨false,tI,.fz⟩]
def ykP (a0:dA):Option (ResD yjC×MutD ydb) :=
  bnd (yo5 a0 a0.2.2.2.2.1) fun r1 =>
  bif (!r1.1.2.1) then
    some ((5,()),(a0,()))
  else
    let r2:=ygA a0.2.2.2.2.1
    bif (inb a0.2.2.2.1 r1.1.1.length) then
      bnd (yn7 a0 a0.2.2.2.1 r2 ([(nth r1.1.1 a0.2.2.2.1 0)]:List Int)) fun r3 =>
      bif r3.2.1.2.2.2.2.2.2.2.2.2.2.1 then
        some ((6,()),(r3.2.1,()))
      else
        some ((0,()),((r3.2.1.1,r3.2.1.2.1,r3.2.1.2.2.1,r3.2.1.2.2.2.1,(IntKind.i64.wrap (r3.2.1.2.2.2.2.1+1)),r3.2.1.2.2.2.2.2),()))
    else none
theorem yQH (x:InD ydb):zjH ⟨yCP,49,yJ3⟩ Tryz.f75.results.toList yCp ydb yjC x=ykP x.1:=by kernel_rfl
theorem yMf:ConOk Tryz.prog 75 ⟨ydb,yjC,fun x=>ykP x.1⟩:=zkh (yIy) Tryz.func75 (by kernel_rfl) (by kernel_rfl) Tryz.ntmps75.symm (by decide) (fun x r h=>(yQH x).trans h)
def yo1 (a0:dA):Int×dA:=yr5 a0
def yjO (a0:dA):Bool:=yg a0.2.1&&(inb a0.2.2.2.1 a0.2.2.1.length&&inb a0.2.2.2.1 a0.2.1.1.toNat)
theorem yOR (a0:dA) (hk:zi9 ydb (a0,())) (hq:yjO a0=true):ykP a0=(fun n=>some ((n.1,()),(n.2,()))) (yo1 a0):=by
  simp only [yjO,Bool.and_eq_true]at hq
  unfold ykP yo1 yr5
  rw [yPL a0 a0.2.2.2.2.1 hq.1]
  simp only [zky,yjN,yuX]
  cases hw:(ye5 a0 a0.2.2.2.2.1).2
  · rfl
  · rw [ySv hw,hq.2.2,yEC a0 a0.2.2.2.1 (yqf a0.2.2.2.2.1) [nth (ye5 a0 a0.2.2.2.2.1).1 a0.2.2.2.1 0] hq.2.1]
    simp only [zky,yn6,Bool.not_true,cond_false,cond_true]
    show (bif yd (yb4 a0) then some ((6,()),(yb4 a0,())) else some ((0,()),(yU4 (yb4 a0),())))=_
    cases yd (yb4 a0)<;>rfl
def yo3 (a0:dA):Option (ResD yjC×MutD ydb):=bif yjO a0 then (fun n=>some ((n.1,()),(n.2,()))) (yo1 a0) else none
theorem yPJ (a0:dA) (h:yjO a0=true):yo3 a0=(fun n=>some ((n.1,()),(n.2,()))) (yo1 a0):=by unfold yo3; rw [h]; rfl
def yzQ:Con:=⟨ydb,yjC,fun x=>yo3 x.1⟩
theorem yPE:ConOk Tryz.prog 75 yzQ:=(yMf).mono (fun x r hk h=>zkW h (fun hq=>yOR x.1 hk hq))
end
section
def yyM:Code:=(Tryz.f22.body).getD .skip
def yzk:Env:=zki TT [(73,ymJ),(74,yoW),(75,yzQ)] []
theorem yEQ:FrOk Tryz.prog ⟨yzk,44,fun _=>none⟩ yyM:=zkp yb yc ⟨yuB,ywA,yPE,trivial⟩
def yFC:Nat→Option Seg:=fun _=>none
abbrev yda:List Par:= [.rd tA]
abbrev ykf:List OT:= [⟨false,tA,(.pr .fz (.pr (.pr .fz .fz) (.pr (.ow (.pr (.ow .fz) (.pr (.ow (.pr .fz .fz)) (.pr .fz (.ow .fz))))) (.pr .fz (.pr .fz (.pr .fz (.pr .fz (.pr .fz (.pr (.ow (.pr .fz .fz)) (.pr .fz (.pr .fz .fz)))))))))))⟩,⟨false,tI,.fz⟩]
def yh7 (a0:dA):Option (ResD ykf×MutD yda) :=
  let r1:=ybA a0
  let r2:=yd1 a0
  bif (r2 !=0) then
    some ((r1,r2,()),())
  else
    bif (!(a0.2.2.2.1==(-1))) then
      bif (inb a0.2.2.2.1 a0.2.2.1.length) then
        bif (!((((nth a0.2.2.1 a0.2.2.2.1 ([],[],false,[])).2).2).1)) then
          bif (leb a0.2.1.2 a0.2.2.2.2.1) then
            some ((r1,2,()),())
          else
            bif a0.2.2.2.2.2.2.2.2.2.2.2 then
              some ((r1,5,()),())
            else
              bnd (yo3 r1) fun r3 =>
              some ((r3.2.1,r3.1.1,()),())
        else
          some ((r1,2,()),())
      else none
    else
      some ((r1,2,()),())
theorem yKr (x:InD yda):zjH ⟨yzk,44,yFC⟩ Tryz.f22.results.toList yyM yda ykf x=yh7 x.1:=by kernel_rfl
theorem yHi:ConOk Tryz.prog 22 ⟨yda,ykf,fun x=>yh7 x.1⟩:=zkh (yEQ) Tryz.func22 (by kernel_rfl) (by kernel_rfl) Tryz.ntmps22.symm (by decide) (fun x r h=>(yKr x).trans h)
def yfX (a0:dA):dA×Int:=yB a0
theorem yUR {a:dA} (h:yr a=true) (h2:a.2.2.2.1≠ -1):inb a.2.2.2.1 a.2.1.1.toNat=true:=by
  have:=yUe h
  exact zjP.2 (by omega)
theorem yI2 (a0:dA) (hk:zi9 yda (a0,())):yh7 a0=(fun n=>some ((n.1,n.2,()),())) (yfX a0):=by
  unfold yh7 yfX yB
  simp only [ybA,yd1,ydZ]
  cases ha:yr a0
  · rfl
  cases hd:yd a0
  · rw [show a0.2.2.2.2.2.2.2.2.2.2.1=false from hd]
    cases hl:(a0.2.2.2.1== -1)
    · have hi:=yuy ha (beq_eq_false_iff_ne.1 hl)
      rw [hi,yPJ a0 (by unfold yjO; rw [ye6 ha,hi,yUR ha (beq_eq_false_iff_ne.1 hl)]; rfl)]
      cases (nth a0.2.2.1 a0.2.2.2.1 yf).2.2.1<;>cases leb a0.2.1.2 a0.2.2.2.2.1<;>cases a0.2.2.2.2.2.2.2.2.2.2.2<;>rfl
    · rfl
  · rw [show a0.2.2.2.2.2.2.2.2.2.2.1=true from hd]; rfl
def yvw:Con:=⟨yda,ykf,fun x=>(fun n=>some ((n.1,n.2,()),())) (yfX x.1)⟩
theorem yJs:ConOk Tryz.prog 22 yvw:=(yHi).mono (fun x r hk h=>(yI2 x.1 hk).trans h)
end
section
def ygO:Code:=(Tryz.f254.body).getD .skip
def ymc:Env:=zki TT [(147,ymI),(218,yjH)] [(32768,(.pr .fz .fz))]
theorem yGN:FrOk Tryz.prog ⟨ymc,40,fun _=>none⟩ ygO:=zkp yb yc ⟨yuA,yra,trivial⟩
def yw8:Nat→Option Seg:=fun _=>none
def yay:Shape:=⟨[(2,false,[.ptr 64 0]),(3,false,[.ptr 4224 0]),(4,false,[.int .i64])],[(64,[.nil,.nil,.bool,.nil]),(4224,[.at 800000000,.at 800000001,.bool,.at 800000002])],[(800000000,tL,.fz),(800000001,tW,(.pr .fz .fz)),(800000002,tI,.fz)]⟩
def ydP:Shape:=⟨[(2,false,[.ptr 64 0]),(3,false,[.ptr 4224 0]),(4,false,[.ci .i64 0])],[(64,[.nil,.nil,.bool,.nil]),(4224,[.at 800000000,.at 800000001,.bool,.at 800000002])],[(800000000,tL,.fz),(800000001,tW,(.pr .fz .fz)),(800000002,tI,.fz)]⟩
def ydI:Shape:=⟨[(2,false,[.ptr 64 0]),(3,false,[.ptr 4224 0])],[(64,[.nil,.nil,.bool,.nil]),(4224,[.at 800000000,.at 800000001,.bool,.at 800000002])],[(800000000,tL,.fz),(800000001,tW,(.pr .fz .fz)),(800000002,tI,.fz)]⟩
def yhI:Shape:=⟨[],[],[]⟩
abbrev ylH (v0:Int) (v1:dM) (v2:dM):(yay).X:=((((),()),((),()),(v0,()),()),(((),(),v1.2.2.1,(),()),((),(),v2.2.2.1,(),()),()),(v2.1,v2.2.1,v2.2.2.2,()))
abbrev yE0 (v0:dM) (v1:dM):(ydP).X:=((((),()),((),()),((),()),()),(((),(),v0.2.2.1,(),()),((),(),v1.2.2.1,(),()),()),(v1.1,v1.2.1,v1.2.2.2,()))
abbrev yt9 (v0:dM) (v1:dM):(ydI).X:=((((),()),((),()),()),(((),(),v0.2.2.1,(),()),((),(),v1.2.2.1,(),()),()),(v1.1,v1.2.1,v1.2.2.2,()))
def ylX (v0:Int) (v1:Bool) (v2:Bool) (v3:List (List Int)) (v4:List dW) (v5:List Int):Option ((yay).X ⊕ ((ydI).X ⊕ (yhI).X)) :=
  bif (ltb v0 (v4.length:Int)) then
    bif (inb v0 v4.length) then
      bif (inb v0 v4.length) then
        bif (inb ((nth v4 v0 (0,[])).1) v3.length) then
          let r4:=(v3.set ((nth v4 v0 (0,[])).1).toNat ((nth v4 v0 (0,[])).2))
          some (.inl ((((),()),((),()),((IntKind.i64.wrap (v0+1)),()),()),(((),(),v1,(),()),((),(),v2,(),()),()),(r4,v4,v5,())))
        else none
      else none
    else none
  else
    some (.inr (.inl ((((),()),((),()),()),(((),(),v1,(),()),((),(),v2,(),()),()),(v3,v4,v5,()))))
def yaX (x:(yay).X):=ylX x.1.2.2.1.1 x.2.1.1.2.2.1 x.2.1.2.1.2.2.1 x.2.2.1 x.2.2.2.1 x.2.2.2.2.1
def ytT (x:(ydP).X):(yay).X:=((((),()),((),()),(0,()),()),(((),(),x.2.1.1.2.2.1,(),()),((),(),x.2.1.2.1.2.2.1,(),()),()),(x.2.2.1,x.2.2.2.1,x.2.2.2.2.1,()))
def yvr:Code:=(zdI ygO 64 244).getD .skip
theorem yGb:zdI ygO 64 61=some (.block 0 (.loop yvr)):=by kernel_rfl
theorem yHy (x:(yay).X):zg7 ⟨ymc,40,yw8⟩ 0 yvr 244 yay ydI yhI x=yaX x:=by kernel_rfl
def yt6 (x:(ydP).X):Nat:=(fun (u0:Bool) (u1:Bool) (u2:List (List Int)) (u3:List dW) (u4:List Int)=>18446744073709551616) x.2.1.1.2.2.1 x.2.1.2.1.2.2.1 x.2.2.1 x.2.2.2.1 x.2.2.2.2.1
def ynt (x:(ydP).X):Option ((ydI).X ⊕ (yhI).X):=zr yaX (yt6 x) (ytT x)
def yun:Seg:=⟨ydP,ydI,yhI,ynt⟩
def yw9:Nat→Option Seg:=fun q=>bif Nat.beq q 61 then some yun else yw8 q
theorem yGO:FrOk Tryz.prog ⟨ymc,40,yw9⟩ ygO:=(yGN).loop (sg:=yun) yay ytT (by decide) yGb yaX yt6 (by decide) (fun _=>rfl) (fun x r _ h=>h) yHy
abbrev yef:List Par:= [.rd tM]
abbrev ymw:List OT:= [⟨false,tM,(.pr (.ow .fz) (.pr (.ow (.pr .fz .fz)) (.pr .fz (.ow .fz))))⟩]
def yiY (a0:dM):Option (ResD ymw×MutD yef) :=
  let r1:=ybz a0
  let r2:=yaD a0
  bif (!(!r2)) then
    bif a0.2.2.1 then
      some ((r1,()),())
    else
      zjw (ynt ((((),()),((),()),((),()),()),(((),(),false,(),()),((),(),r1.2.2.1,(),()),()),(r1.1,r1.2.1,r1.2.2.2,()))) (fun y4 =>
        some (((y4.2.2.1,([]:List dW),y4.2.1.2.1.2.2.1,y4.2.2.2.2.1),()),())) (fun y4 =>
        none)
  else
    some ((r1,()),())
theorem yNF (x:InD yef):zjH ⟨ymc,40,yw9⟩ Tryz.f254.results.toList ygO yef ymw x=yiY x.1:=by kernel_rfl
theorem yJj:ConOk Tryz.prog 254 ⟨yef,ymw,fun x=>yiY x.1⟩:=zkh (yGO) Tryz.func254 (by kernel_rfl) (by kernel_rfl) Tryz.ntmps254.symm (by decide) (fun x r h=>(yNF x).trans h)
def yhW (a0:dM):dM:=yfR a0
theorem yLT (a0:dM) (hk:zi9 yef (a0,())):yiY a0=(fun n=>some ((n,()),())) (yhW a0):=by
  have hb2:a0.2.1.length * 32≤2 ^ 47:=hk.1.2.1.1
  unfold yiY yhW yfR
  simp only [ybz,yaD]
  cases hm:yn a0
  · rfl
  have h1:ynt (yE0 yf a0)=some (.inl (yt9 yf (ydn (fun _=>true) a0.2.1 a0.1,a0.2))) :=
    zks (step:=yaX) a0.2.1.length (fun i s=>ylH i yf (s,a0.2)) (yeY (fun _=>true) a0.2.1) (fun i s=>s.length=a0.1.length) (fun s=> .inl (yt9 yf (s,a0.2))) (fun i s hi hs=>by
      have hw:=(yUT hm hi).1
      refine ⟨?_,yDI.trans hs⟩
      simp only [yaX,ylH,ylX,zjI (show (i:Int) < a0.2.1.length by omega),cond_true,wr (show -9223372036854775808≤(i:Int)+1 by omega) (by omega),Int.natCast_add,Int.natCast_one,Int.toNat_natCast,zkO hi,hs,hw,yeY]) (fun s hs=>by simp only [yaX,ylH,ylX,zkm (Int.le_refl _),cond_false]) a0.1 rfl _ (by show _ < 18446744073709551616; omega)
  rw [h1]
  cases hf:a0.2.2.1
  · exact congrArg (fun z=>some (((ydn (fun _=>true) a0.2.1 a0.1,([]:List dW),z,a0.2.2.2),()),())) hf
  · rfl
def yxB:Con:=⟨yef,ymw,fun x=>(fun n=>some ((n,()),())) (yhW x.1)⟩
theorem yMu:ConOk Tryz.prog 254 yxB:=(yJj).mono (fun x r hk h=>(yLT x.1 hk).trans h)
end
section
def yk7:Code:=(Tryz.f224.body).getD .skip
def yqC:Env:=zki TT [(213,ywu),(254,yxB)] []
theorem yLc:FrOk Tryz.prog ⟨yqC,39,fun _=>none⟩ yk7:=zkp yb yc ⟨yHl,yMu,trivial⟩
def yBo:Nat→Option Seg:=fun _=>none
def ycx:Shape:=⟨[(0,false,[.ptr 1000000000 0]),(2,false,[.int .i64])],[(1000000000,[.int .i64,.int .i64,.int .i64,.at 800000000,.int .i64,.int .i64,.int .i64,.int .i64,.int .i64,.at 800000001,.int .i64,.bool,.bool])],[(800000000,tM,(.pr (.ow .fz) (.pr (.ow (.pr .fz .fz)) (.pr .fz (.ow .fz))))),(800000001,tW,(.pr .fz .fz))]⟩
def yho:Shape:=⟨[(0,false,[.ptr 1000000000 0]),(2,false,[.ci .i64 0])],[(1000000000,[.int .i64,.int .i64,.int .i64,.at 800000000,.int .i64,.int .i64,.int .i64,.int .i64,.int .i64,.at 800000001,.int .i64,.bool,.bool])],[(800000000,tM,(.pr (.ow .fz) (.pr (.ow (.pr .fz .fz)) (.pr .fz (.ow .fz))))),(800000001,tW,(.pr .fz .fz))]⟩
def yg9:Shape:=⟨[],[(1000000000,[.int .i64,.int .i64,.int .i64,.at 800000000,.int .i64,.int .i64,.int .i64,.int .i64,.int .i64,.at 800000001,.int .i64,.bool,.bool])],[(800000000,tM,(.pr (.ow .fz) (.pr (.ow (.pr .fz .fz)) (.pr .fz (.ow .fz))))),(800000001,tW,(.pr .fz .fz))]⟩
def ymE:Shape:=⟨[],[],[]⟩
abbrev yrE (v0:Int) (v1:dA):(ycx).X:=((((),()),(v0,()),()),((v1.1,v1.2.1.1,v1.2.1.2,(),v1.2.2.2.1,v1.2.2.2.2.1,v1.2.2.2.2.2.1,v1.2.2.2.2.2.2.1,v1.2.2.2.2.2.2.2.1,(),v1.2.2.2.2.2.2.2.2.2.1,v1.2.2.2.2.2.2.2.2.2.2.1,v1.2.2.2.2.2.2.2.2.2.2.2,()),()),(v1.2.2.1,v1.2.2.2.2.2.2.2.2.1,()))
abbrev yLv (v0:dA):(yho).X:=((((),()),((),()),()),((v0.1,v0.2.1.1,v0.2.1.2,(),v0.2.2.2.1,v0.2.2.2.2.1,v0.2.2.2.2.2.1,v0.2.2.2.2.2.2.1,v0.2.2.2.2.2.2.2.1,(),v0.2.2.2.2.2.2.2.2.2.1,v0.2.2.2.2.2.2.2.2.2.2.1,v0.2.2.2.2.2.2.2.2.2.2.2,()),()),(v0.2.2.1,v0.2.2.2.2.2.2.2.2.1,()))
abbrev yAn (v0:dA):(yg9).X:=((),((v0.1,v0.2.1.1,v0.2.1.2,(),v0.2.2.2.1,v0.2.2.2.2.1,v0.2.2.2.2.2.1,v0.2.2.2.2.2.2.1,v0.2.2.2.2.2.2.2.1,(),v0.2.2.2.2.2.2.2.2.2.1,v0.2.2.2.2.2.2.2.2.2.2.1,v0.2.2.2.2.2.2.2.2.2.2.2,()),()),(v0.2.2.1,v0.2.2.2.2.2.2.2.2.1,()))
def yrZ (v0:Int) (v1:Int) (v2:Int) (v3:Int) (v4:Int) (v5:Int) (v6:Int) (v7:Int) (v8:Int) (v9:Int) (v10:Bool) (v11:Bool) (v12:List dM) (v13:List dW):Option ((ycx).X ⊕ ((yg9).X ⊕ (ymE).X)) :=
  bif (ltb v0 (v12.length:Int)) then
    bif (inb v0 v12.length) then
      bif (!((((nth v12 v0 ([],[],false,[])).2).2).1)) then
        let r3:=yqn (v1,(v2,v3),v12,v4,v5,v6,v7,v8,v13,v9,v10,v11)
        bif r3.1 then
          bif (inb v0 r3.2.2.2.1.length) then
            let r4:=yhW ((nth r3.2.2.2.1 v0 ([],[],false,[])).1,((nth r3.2.2.2.1 v0 ([],[],false,[])).2).1,(((nth r3.2.2.2.1 v0 ([],[],false,[])).2).2))
            bif (inb v0 r3.2.2.2.1.length) then
              some (.inl ((((),()),((IntKind.i64.wrap (v0+1)),()),()),((r3.2.1,r3.2.2.1.1,r3.2.2.1.2,(),r3.2.2.2.2.1,r3.2.2.2.2.2.1,r3.2.2.2.2.2.2.1,r3.2.2.2.2.2.2.2.1,r3.2.2.2.2.2.2.2.2.1,(),r3.2.2.2.2.2.2.2.2.2.2.1,r3.2.2.2.2.2.2.2.2.2.2.2.1,r3.2.2.2.2.2.2.2.2.2.2.2.2,()),()),((r3.2.2.2.1.set (v0).toNat r4),r3.2.2.2.2.2.2.2.2.2.1,())))
            else none
          else none
        else
          some (.inl ((((),()),((IntKind.i64.wrap (v0+1)),()),()),((r3.2.1,r3.2.2.1.1,r3.2.2.1.2,(),r3.2.2.2.2.1,r3.2.2.2.2.2.1,r3.2.2.2.2.2.2.1,r3.2.2.2.2.2.2.2.1,r3.2.2.2.2.2.2.2.2.1,(),r3.2.2.2.2.2.2.2.2.2.2.1,r3.2.2.2.2.2.2.2.2.2.2.2.1,r3.2.2.2.2.2.2.2.2.2.2.2.2,()),()),(r3.2.2.2.1,r3.2.2.2.2.2.2.2.2.2.1,())))
      else
        some (.inl ((((),()),((IntKind.i64.wrap (v0+1)),()),()),((v1,v2,v3,(),v4,v5,v6,v7,v8,(),v9,v10,v11,()),()),(v12,v13,())))
    else none
  else
    some (.inr (.inl ((),((v1,v2,v3,(),v4,v5,v6,v7,v8,(),v9,v10,v11,()),()),(v12,v13,()))))
def ycX (x:(ycx).X):=yrZ x.1.2.1.1 x.2.1.1.1 x.2.1.1.2.1 x.2.1.1.2.2.1 x.2.1.1.2.2.2.2.1 x.2.1.1.2.2.2.2.2.1 x.2.1.1.2.2.2.2.2.2.1 x.2.1.1.2.2.2.2.2.2.2.1 x.2.1.1.2.2.2.2.2.2.2.2.1 x.2.1.1.2.2.2.2.2.2.2.2.2.2.1 x.2.1.1.2.2.2.2.2.2.2.2.2.2.2.1 x.2.1.1.2.2.2.2.2.2.2.2.2.2.2.2.1 x.2.2.1 x.2.2.2.1
def yz5 (x:(yho).X):(ycx).X:=((((),()),(0,()),()),((x.2.1.1.1,x.2.1.1.2.1,x.2.1.1.2.2.1,(),x.2.1.1.2.2.2.2.1,x.2.1.1.2.2.2.2.2.1,x.2.1.1.2.2.2.2.2.2.1,x.2.1.1.2.2.2.2.2.2.2.1,x.2.1.1.2.2.2.2.2.2.2.2.1,(),x.2.1.1.2.2.2.2.2.2.2.2.2.2.1,x.2.1.1.2.2.2.2.2.2.2.2.2.2.2.1,x.2.1.1.2.2.2.2.2.2.2.2.2.2.2.2.1,()),()),(x.2.2.1,x.2.2.2.1,()))
def yBJ:Code:=(zdI yk7 64 12).getD .skip
theorem yNk:zdI yk7 64 3=some (.block 0 (.loop yBJ)):=by kernel_rfl
theorem yPX (x:(ycx).X):zg7 ⟨yqC,39,yBo⟩ 0 yBJ 12 ycx yg9 ymE x=ycX x:=by kernel_rfl
def yAj (x:(yho).X):Nat:=(fun (u0:Int) (u1:Int) (u2:Int) (u3:Int) (u4:Int) (u5:Int) (u6:Int) (u7:Int) (u8:Int) (u9:Bool) (u10:Bool) (u11:List dM) (u12:List dW)=>18446744073709551616) x.2.1.1.1 x.2.1.1.2.1 x.2.1.1.2.2.1 x.2.1.1.2.2.2.2.1 x.2.1.1.2.2.2.2.2.1 x.2.1.1.2.2.2.2.2.2.1 x.2.1.1.2.2.2.2.2.2.2.1 x.2.1.1.2.2.2.2.2.2.2.2.1 x.2.1.1.2.2.2.2.2.2.2.2.2.2.1 x.2.1.1.2.2.2.2.2.2.2.2.2.2.2.1 x.2.1.1.2.2.2.2.2.2.2.2.2.2.2.2.1 x.2.2.1 x.2.2.2.1
def ysu (x:(yho).X):Option ((yg9).X ⊕ (ymE).X):=zr ycX (yAj x) (yz5 x)
def yAH:Seg:=⟨yho,yg9,ymE,ysu⟩
def yBp:Nat→Option Seg:=fun q=>bif Nat.beq q 3 then some yAH else yBo q
theorem yLd:FrOk Tryz.prog ⟨yqC,39,yBp⟩ yk7:=(yLc).loop (sg:=yAH) ycx yz5 (by decide) yNk ycX yAj (by decide) (fun _=>rfl) (fun x r _ h=>h) yPX
abbrev ygw:List Par:= [.pt tA (.pr .fz (.pr (.pr .fz .fz) (.pr (.ow (.pr (.ow .fz) (.pr (.ow (.pr .fz .fz)) (.pr .fz (.ow .fz))))) (.pr .fz (.pr .fz (.pr .fz (.pr .fz (.pr .fz (.pr (.ow (.pr .fz .fz)) (.pr .fz (.pr .fz .fz)))))))))))]
abbrev yq5:List OT:= []
def ym8 (a0:dA):Option (ResD yq5×MutD ygw) :=
  zjw (ysu ((((),()),((),()),()),((a0.1,a0.2.1.1,a0.2.1.2,(),a0.2.2.2.1,a0.2.2.2.2.1,a0.2.2.2.2.2.1,a0.2.2.2.2.2.2.1,a0.2.2.2.2.2.2.2.1,(),a0.2.2.2.2.2.2.2.2.2.1,a0.2.2.2.2.2.2.2.2.2.2.1,a0.2.2.2.2.2.2.2.2.2.2.2,()),()),(a0.2.2.1,a0.2.2.2.2.2.2.2.2.1,()))) (fun y4 =>
    some ((),((y4.2.1.1.1,(y4.2.1.1.2.1,y4.2.1.1.2.2.1),y4.2.2.1,y4.2.1.1.2.2.2.2.1,y4.2.1.1.2.2.2.2.2.1,y4.2.1.1.2.2.2.2.2.2.1,y4.2.1.1.2.2.2.2.2.2.2.1,y4.2.1.1.2.2.2.2.2.2.2.2.1,y4.2.2.2.1,y4.2.1.1.2.2.2.2.2.2.2.2.2.2.1,y4.2.1.1.2.2.2.2.2.2.2.2.2.2.2.1,y4.2.1.1.2.2.2.2.2.2.2.2.2.2.2.2.1),()))) (fun y4 =>
    none)
theorem yS5 (x:InD ygw):zjH ⟨yqC,39,yBp⟩ Tryz.f224.results.toList yk7 ygw yq5 x=ym8 x.1:=by kernel_rfl
theorem yPq:ConOk Tryz.prog 224 ⟨ygw,yq5,fun x=>ym8 x.1⟩:=zkh (yLd) Tryz.func224 (by kernel_rfl) (by kernel_rfl) Tryz.ntmps224.symm (by decide) (fun x r h=>(yS5 x).trans h)
def yey (a0:dA):dA:=yL a0
theorem yRq (a0:dA) (hk:zi9 ygw (a0,())):ym8 a0=(fun n=>some ((),(n,()))) (yey a0):=by
  have hb:a0.2.2.1.length * 80≤2 ^ 47:=hk.1.2.2.1.1
  have h1:ysu (yLv a0)=some (.inl (yAn (yL a0))) :=
    zks (step:=ycX) a0.2.2.1.length (fun i s=>yrE i s) yG (fun _ s=>s.2.2.1.length=a0.2.2.1.length) (fun s=> .inl (yAn s)) (fun i s hi hs=>⟨by
      simp only [ycX,yrE,yrZ,hs,zjI (show (i:Int) < a0.2.2.1.length by omega),cond_true,wr (show -9223372036854775808≤(i:Int)+1 by omega) (by omega),Int.natCast_add,Int.natCast_one,Int.toNat_natCast,zkO hi,zkV,yP0,ydq,yhW,yG,yAv]
      cases (nth s.2.2.1 i yf).2.2.1<;>cases (opA s).1<;>simp only [cond_true,cond_false,Bool.not_true,Bool.not_false,ydq,Int.toNat_natCast],(yu5 s i).trans hs⟩) (fun s hs=>by simp only [ycX,yrE,yrZ,hs,zkm (Int.le_refl _),cond_false]) a0 rfl _ (by show _ < 18446744073709551616; omega)
  unfold ym8 yey
  rw [h1]; rfl
def yta:Con:=⟨ygw,yq5,fun x=>(fun n=>some ((),(n,()))) (yey x.1)⟩
theorem yDy:ConOk Tryz.prog 224 yta:=(yPq).mono (fun x r hk h=>(yRq x.1 hk).trans h)
end
section
def yk6:Code:=(Tryz.f228.body).getD .skip
def yqB:Env:=zki TT [(149,yuw),(224,yta),(241,yxC)] []
theorem yLa:FrOk Tryz.prog ⟨yqB,63,fun _=>none⟩ yk6:=zkp yb yc ⟨yEB,yDy,yMv,trivial⟩
def yBm:Nat→Option Seg:=fun _=>none
def ybK:Shape:=⟨[(0,false,[.ptr 1000000000 0]),(2,false,[.int .i64])],[(1000000000,[.int .i64,.int .i64,.int .i64,.at 800000000,.int .i64,.int .i64,.int .i64,.int .i64,.int .i64,.at 800000001,.int .i64,.bool,.bool])],[(800000000,tM,(.pr (.ow .fz) (.pr (.ow (.pr .fz .fz)) (.pr .fz (.ow .fz))))),(800000001,tW,(.pr .fz .fz))]⟩
def yfK:Shape:=⟨[(0,false,[.ptr 1000000000 0]),(2,false,[.ci .i64 0])],[(1000000000,[.int .i64,.int .i64,.int .i64,.at 800000000,.int .i64,.int .i64,.int .i64,.int .i64,.int .i64,.at 800000001,.int .i64,.bool,.bool])],[(800000000,tM,(.pr (.ow .fz) (.pr (.ow (.pr .fz .fz)) (.pr .fz (.ow .fz))))),(800000001,tW,(.pr .fz .fz))]⟩
def yfC:Shape:=⟨[(0,false,[.ptr 1000000000 0])],[(1000000000,[.int .i64,.int .i64,.int .i64,.at 800000000,.int .i64,.int .i64,.int .i64,.int .i64,.int .i64,.at 800000001,.int .i64,.bool,.bool])],[(800000000,tM,(.pr (.ow .fz) (.pr (.ow (.pr .fz .fz)) (.pr .fz (.ow .fz))))),(800000001,tW,(.pr .fz .fz))]⟩
def ykt:Shape:=⟨[],[],[]⟩
abbrev ypO (v0:Int) (v1:dA):(ybK).X:=((((),()),(v0,()),()),((v1.1,v1.2.1.1,v1.2.1.2,(),v1.2.2.2.1,v1.2.2.2.2.1,v1.2.2.2.2.2.1,v1.2.2.2.2.2.2.1,v1.2.2.2.2.2.2.2.1,(),v1.2.2.2.2.2.2.2.2.2.1,v1.2.2.2.2.2.2.2.2.2.2.1,v1.2.2.2.2.2.2.2.2.2.2.2,()),()),(v1.2.2.1,v1.2.2.2.2.2.2.2.2.1,()))
abbrev yIS (v0:dA):(yfK).X:=((((),()),((),()),()),((v0.1,v0.2.1.1,v0.2.1.2,(),v0.2.2.2.1,v0.2.2.2.2.1,v0.2.2.2.2.2.1,v0.2.2.2.2.2.2.1,v0.2.2.2.2.2.2.2.1,(),v0.2.2.2.2.2.2.2.2.2.1,v0.2.2.2.2.2.2.2.2.2.2.1,v0.2.2.2.2.2.2.2.2.2.2.2,()),()),(v0.2.2.1,v0.2.2.2.2.2.2.2.2.1,()))
abbrev yye (v0:dA):(yfC).X:=((((),()),()),((v0.1,v0.2.1.1,v0.2.1.2,(),v0.2.2.2.1,v0.2.2.2.2.1,v0.2.2.2.2.2.1,v0.2.2.2.2.2.2.1,v0.2.2.2.2.2.2.2.1,(),v0.2.2.2.2.2.2.2.2.2.1,v0.2.2.2.2.2.2.2.2.2.2.1,v0.2.2.2.2.2.2.2.2.2.2.2,()),()),(v0.2.2.1,v0.2.2.2.2.2.2.2.2.1,()))
def yp7 (v0:Int) (v1:Int) (v2:Int) (v3:Int) (v4:Int) (v5:Int) (v6:Int) (v7:Int) (v8:Int) (v9:Int) (v10:Bool) (v11:Bool) (v12:List dM) (v13:List dW):Option ((ybK).X ⊕ ((yfC).X ⊕ (ykt).X)) :=
  bif (ltb v0 (v12.length:Int)) then
    let r3:=yak (v1,v8,v0,v2,v3,v7,v4,v5)
    bnd (yn7 (v1,(v2,v3),v12,v4,v5,v6,v7,v8,v13,v9,v10,v11) v0 (v8.tmod 2) r3) fun r4 =>
    some (.inl ((((),()),((IntKind.i64.wrap (v0+1)),()),()),((r4.2.1.1,r4.2.1.2.1.1,r4.2.1.2.1.2,(),r4.2.1.2.2.2.1,r4.2.1.2.2.2.2.1,r4.2.1.2.2.2.2.2.1,r4.2.1.2.2.2.2.2.2.1,r4.2.1.2.2.2.2.2.2.2.1,(),r4.2.1.2.2.2.2.2.2.2.2.2.1,r4.2.1.2.2.2.2.2.2.2.2.2.2.1,r4.2.1.2.2.2.2.2.2.2.2.2.2.2,()),()),(r4.2.1.2.2.1,r4.2.1.2.2.2.2.2.2.2.2.1,())))
  else
    some (.inr (.inl ((((),()),()),((v1,v2,v3,(),v4,v5,v6,v7,v8,(),v9,v10,v11,()),()),(v12,v13,()))))
def yck (x:(ybK).X):=yp7 x.1.2.1.1 x.2.1.1.1 x.2.1.1.2.1 x.2.1.1.2.2.1 x.2.1.1.2.2.2.2.1 x.2.1.1.2.2.2.2.2.1 x.2.1.1.2.2.2.2.2.2.1 x.2.1.1.2.2.2.2.2.2.2.1 x.2.1.1.2.2.2.2.2.2.2.2.1 x.2.1.1.2.2.2.2.2.2.2.2.2.2.1 x.2.1.1.2.2.2.2.2.2.2.2.2.2.2.1 x.2.1.1.2.2.2.2.2.2.2.2.2.2.2.2.1 x.2.2.1 x.2.2.2.1
def yxV (x:(yfK).X):(ybK).X:=((((),()),(0,()),()),((x.2.1.1.1,x.2.1.1.2.1,x.2.1.1.2.2.1,(),x.2.1.1.2.2.2.2.1,x.2.1.1.2.2.2.2.2.1,x.2.1.1.2.2.2.2.2.2.1,x.2.1.1.2.2.2.2.2.2.2.1,x.2.1.1.2.2.2.2.2.2.2.2.1,(),x.2.1.1.2.2.2.2.2.2.2.2.2.2.1,x.2.1.1.2.2.2.2.2.2.2.2.2.2.2.1,x.2.1.1.2.2.2.2.2.2.2.2.2.2.2.2.1,()),()),(x.2.2.1,x.2.2.2.1,()))
def yzB:Code:=(zdI yk6 64 52).getD .skip
theorem yKk:zdI yk6 64 13=some (.block 0 (.loop yzB)):=by kernel_rfl
theorem yMP (x:(ybK).X):zg7 ⟨yqB,63,yBm⟩ 0 yzB 52 ybK yfC ykt x=yck x:=by kernel_rfl
def yyb (x:(yfK).X):Nat:=(fun (u0:Int) (u1:Int) (u2:Int) (u3:Int) (u4:Int) (u5:Int) (u6:Int) (u7:Int) (u8:Int) (u9:Bool) (u10:Bool) (u11:List dM) (u12:List dW)=>18446744073709551616) x.2.1.1.1 x.2.1.1.2.1 x.2.1.1.2.2.1 x.2.1.1.2.2.2.2.1 x.2.1.1.2.2.2.2.2.1 x.2.1.1.2.2.2.2.2.2.1 x.2.1.1.2.2.2.2.2.2.2.1 x.2.1.1.2.2.2.2.2.2.2.2.1 x.2.1.1.2.2.2.2.2.2.2.2.2.2.1 x.2.1.1.2.2.2.2.2.2.2.2.2.2.2.1 x.2.1.1.2.2.2.2.2.2.2.2.2.2.2.2.1 x.2.2.1 x.2.2.2.1
def yrr (x:(yfK).X):Option ((yfC).X ⊕ (ykt).X):=zr yck (yyb x) (yxV x)
def yyx:Seg:=⟨yfK,yfC,ykt,yrr⟩
def yBn:Nat→Option Seg:=fun q=>bif Nat.beq q 13 then some yyx else yBm q
theorem yLb:FrOk Tryz.prog ⟨yqB,63,yBn⟩ yk6:=(yLa).loop (sg:=yyx) ybK yxV (by decide) yKk yck yyb (by decide) (fun _=>rfl) (fun x r _ h=>h) yMP
abbrev ygv:List Par:= [.pt tA (.pr .fz (.pr (.pr .fz .fz) (.pr (.ow (.pr (.ow .fz) (.pr (.ow (.pr .fz .fz)) (.pr .fz (.ow .fz))))) (.pr .fz (.pr .fz (.pr .fz (.pr .fz (.pr .fz (.pr (.ow (.pr .fz .fz)) (.pr .fz (.pr .fz .fz)))))))))))]
abbrev yq4:List OT:= []
def ym7 (a0:dA):Option (ResD yq4×MutD ygv) :=
  zjw (yrr ((((),()),((),()),()),((a0.1,a0.2.1.1,a0.2.1.2,(),a0.2.2.2.1,a0.2.2.2.2.1,a0.2.2.2.2.2.1,a0.2.2.2.2.2.2.1,(IntKind.i64.wrap (a0.2.2.2.2.2.2.2.1+1)),(),a0.2.2.2.2.2.2.2.2.2.1,a0.2.2.2.2.2.2.2.2.2.2.1,a0.2.2.2.2.2.2.2.2.2.2.2,()),()),(a0.2.2.1,a0.2.2.2.2.2.2.2.2.1,()))) (fun y4 =>
    let r6:=yey (y4.2.1.1.1,(y4.2.1.1.2.1,y4.2.1.1.2.2.1),y4.2.2.1,y4.2.1.1.2.2.2.2.1,y4.2.1.1.2.2.2.2.2.1,y4.2.1.1.2.2.2.2.2.2.1,y4.2.1.1.2.2.2.2.2.2.2.1,y4.2.1.1.2.2.2.2.2.2.2.2.1,y4.2.2.2.1,y4.2.1.1.2.2.2.2.2.2.2.2.2.2.1,y4.2.1.1.2.2.2.2.2.2.2.2.2.2.2.1,y4.2.1.1.2.2.2.2.2.2.2.2.2.2.2.2.1)
    some ((),(r6,()))) (fun y4 =>
    none)
theorem yS4 (x:InD ygv):zjH ⟨yqB,63,yBn⟩ Tryz.f228.results.toList yk6 ygv yq4 x=ym7 x.1:=by kernel_rfl
theorem yPp:ConOk Tryz.prog 228 ⟨ygv,yq4,fun x=>ym7 x.1⟩:=zkh (yLb) Tryz.func228 (by kernel_rfl) (by kernel_rfl) Tryz.ntmps228.symm (by decide) (fun x r h=>(yS4 x).trans h)
def yab (a0:dA):dA:=yz a0
theorem yJW (a:dA) (i:Nat):(yaH a i).2.2.1.length=a.2.2.1.length:=yHG _ _ _ _
theorem yRp (a0:dA) (hk:zi9 ygv (a0,())):ym7 a0=(fun n=>some ((),(n,()))) (yab a0):=by
  have hb:a0.2.2.1.length * 80≤2 ^ 47:=hk.1.2.2.1.1
  have h1:yrr (yIS (yiJ a0))=some (.inl (yye ((List.range a0.2.2.1.length).foldl yaH (yiJ a0)))) :=
    zks (step:=yck) a0.2.2.1.length (fun i s=>ypO i s) yaH (fun _ s=>s.2.2.1.length=a0.2.2.1.length) (fun s=> .inl (yye s)) (fun i s hi hs=>⟨by
      simp only [yck,ypO,yp7,hs,zjI (show (i:Int) < a0.2.2.1.length by omega),cond_true,wr (show -9223372036854775808≤(i:Int)+1 by omega) (by omega),Int.natCast_add,Int.natCast_one,Int.toNat_natCast,zkV]
      rw [yEC s i (s.2.2.2.2.2.2.2.1.tmod 2) (yak (s.1,s.2.2.2.2.2.2.2.1,(i:Int),s.2.1.1,s.2.1.2,s.2.2.2.2.2.2.1,s.2.2.2.1,s.2.2.2.2.1)) (zkO (by rw [hs]; exact hi))]
      rfl,(yJW s i).trans hs⟩) (fun s hs=>by simp only [yck,ypO,yp7,hs,zkm (Int.le_refl _),cond_false]) (yiJ a0) rfl _ (by show _ < 18446744073709551616; omega)
  unfold ym7 yab yz
  exact (congrArg (fun z=>zjw z _ _) h1).trans rfl
def ymK:Con:=⟨ygv,yq4,fun x=>(fun n=>some ((),(n,()))) (yab x.1)⟩
theorem yuC:ConOk Tryz.prog 228 ymK:=(yPp).mono (fun x r hk h=>(yRp x.1 hk).trans h)
end
end
end Go.Tf
