/- Functions of the program, and what they come to. -/
import Derived.Test.YtfpjmijaiekbgaaGreatExactBuildAllF11
namespace Go.Tf
noncomputable section
open Go.Proofs
set_option synthInstance.maxHeartbeats 400000
set_option synthInstance.maxSize 10000
set_option linter.unusedVariables false
set_option linter.unusedSimpArgs false
set_option maxRecDepth 100000
section
def yk4:Code:=(Tryz.f235.body).getD .skip
def yqz:Env:=zki TT [(98,yM)] [(28864,.fz),(28928,.fz)]
theorem yKX:FrOk Tryz.prog ⟨yqz,22,fun _=>none⟩ yk4:=zkp yb yc ⟨yaE,trivial⟩
def yBe:Nat→Option Seg:=fun _=>none
def ybE:Shape:=⟨[(0,false,[.int .i64]),(2,false,[.ptr 0 0]),(3,false,[.ptr 12352 0]),(4,false,[.int .i64])],[(0,[.nil,.nil,.bool,.nil]),(12352,[.at 800000000,.nil,.bool,.nil])],[(800000000,tL,.fz)]⟩
def yfE:Shape:=⟨[(0,false,[.int .i64]),(2,false,[.ptr 0 0]),(3,false,[.ptr 12352 0]),(4,false,[.ci .i64 0])],[(0,[.nil,.nil,.bool,.nil]),(12352,[.at 800000000,.nil,.bool,.nil])],[(800000000,tL,.fz)]⟩
def yfw:Shape:=⟨[(2,false,[.ptr 0 0]),(3,false,[.ptr 12352 0])],[(0,[.nil,.nil,.bool,.nil]),(12352,[.at 800000000,.nil,.bool,.nil])],[(800000000,tL,.fz)]⟩
def ykp:Shape:=⟨[],[],[]⟩
abbrev ypI (v0:Int) (v1:Int) (v2:dM) (v3:dM):(ybE).X:=(((v0,()),((),()),((),()),(v1,()),()),(((),(),v2.2.2.1,(),()),((),(),v3.2.2.1,(),()),()),(v3.1,()))
abbrev yIM (v0:Int) (v1:dM) (v2:dM):(yfE).X:=(((v0,()),((),()),((),()),((),()),()),(((),(),v1.2.2.1,(),()),((),(),v2.2.2.1,(),()),()),(v2.1,()))
abbrev yIH (v0:dM) (v1:dM):(yfw).X:=((((),()),((),()),()),(((),(),v0.2.2.1,(),()),((),(),v1.2.2.1,(),()),()),(v1.1,()))
def yp1 (v0:Int) (v1:Int) (v2:Bool) (v3:Bool) (v4:List (List Int)):Option ((ybE).X ⊕ ((yfw).X ⊕ (ykp).X)) :=
  bif (ltb v1 v0) then
    bif (zj4 v4.length ([([]:List Int)]:List (List Int)).length 24) then
      some (.inl (((v0,()),((),()),((),()),((IntKind.i64.wrap (v1+1)),()),()),(((),(),v2,(),()),((),(),v3,(),()),()),((v4++([([]:List Int)]:List (List Int))),())))
    else none
  else
    some (.inr (.inl ((((),()),((),()),()),(((),(),v2,(),()),((),(),v3,(),()),()),(v4,()))))
def yce (x:(ybE).X):=yp1 x.1.1.1 x.1.2.2.2.1.1 x.2.1.1.2.2.1 x.2.1.2.1.2.2.1 x.2.2.1
def yxP (x:(yfE).X):(ybE).X:=(((x.1.1.1,()),((),()),((),()),(0,()),()),(((),(),x.2.1.1.2.2.1,(),()),((),(),x.2.1.2.1.2.2.1,(),()),()),(x.2.2.1,()))
def yzv:Code:=(zdI yk4 64 244).getD .skip
theorem yKe:zdI yk4 64 61=some (.block 0 (.loop yzv)):=by kernel_rfl
theorem yMJ (x:(ybE).X):zg7 ⟨yqz,22,yBe⟩ 0 yzv 244 ybE yfw ykp x=yce x:=by kernel_rfl
def yx5 (x:(yfE).X):Nat:=(fun (u0:Int) (u1:Bool) (u2:Bool) (u3:List (List Int))=>18446744073709551616) x.1.1.1 x.2.1.1.2.2.1 x.2.1.2.1.2.2.1 x.2.2.1
def yrl (x:(yfE).X):Option ((yfw).X ⊕ (ykp).X):=zr yce (yx5 x) (yxP x)
def yyr:Seg:=⟨yfE,yfw,ykp,yrl⟩
def yBf:Nat→Option Seg:=fun q=>bif Nat.beq q 61 then some yyr else yBe q
theorem yKY:FrOk Tryz.prog ⟨yqz,22,yBf⟩ yk4:=(yKX).loop (sg:=yyr) ybE yxP (by decide) yKe yce yx5 (by decide) (fun _=>rfl) (fun x r _ h=>h) yMJ
abbrev ygr:List Par:= [.rd tI]
abbrev yqY:List OT:= [⟨false,tM,(.pr (.ow .fz) (.pr (.ow (.pr .fz .fz)) (.pr .fz (.ow .fz))))⟩]
def ym2 (a0:Int):Option (ResD yqY×MutD ygr) :=
  let r1:=ya a0 1 20
  bif (!r1) then
    some ((([],[],false,[]),()),())
  else
    zjw (yrl (((a0,()),((),()),((),()),((),()),()),(((),(),false,(),()),((),(),false,(),()),()),([],()))) (fun y1 =>
      some (((y1.2.2.1,[],y1.2.1.2.1.2.2.1,[]),()),())) (fun y1 =>
      none)
theorem ySX (x:InD ygr):zjH ⟨yqz,22,yBf⟩ Tryz.f235.results.toList yk4 ygr yqY x=ym2 x.1:=by kernel_rfl
theorem yPi:ConOk Tryz.prog 235 ⟨ygr,yqY,fun x=>ym2 x.1⟩:=zkh (yKY) Tryz.func235 (by kernel_rfl) (by kernel_rfl) Tryz.ntmps235.symm (by decide) (fun x r h=>(ySX x).trans h)
def ylw (a0:Int):dM:=yv5 a0
theorem yRi (a0:Int) (hk:zi9 ygr (a0,())):ym2 a0=(fun n=>some ((n,()),())) (ylw a0):=by
  unfold ym2 ylw yv5
  simp only [ykx]
  cases hc:(leb 1 a0&&leb a0 20)
  · rfl
  · rw [Bool.and_eq_true,zjQ,zjQ]at hc
    have h1:yrl (yIM a0 yf yf)=some (.inl (yIH yf (List.replicate a0.toNat [],[],false,[]))) :=
      zjs (step:=yce) (fun i=>ypI a0 i yf (List.replicate i [],[],false,[])) a0.toNat _ (fun i hi=>by
        simp only [yce,ypI,yp1,zjI (show (i:Int) < a0 by omega),cond_true,wr (show -9223372036854775808≤(i:Int)+1 by omega) (by omega),Int.natCast_add,Int.natCast_one,Int.toNat_natCast]
        rw [zkw.2 (show ((List.replicate i ([]:List Int)).length+([[]]:List (List Int)).length) * 24≤140737488355328 by simp only [List.length_cons,List.length_nil,List.length_replicate]; omega),← List.replicate_succ']; rfl) (by simp only [yce,ypI,yp1,zkm (show a0≤(a0.toNat:Int) by omega),cond_false]) _ (by show _ < 18446744073709551616; omega)
    rw [h1]; rfl
def yBW:Con:=⟨ygr,yqY,fun x=>(fun n=>some ((n,()),())) (ylw x.1)⟩
theorem yR9:ConOk Tryz.prog 235 yBW:=(yPi).mono (fun x r hk h=>(yRi x.1 hk).trans h)
end
section
def yAX:Code:=(Tryz.f180.body).getD .skip
def yBw:Env:=zki TT [(219,ys9),(228,ymK),(235,yBW)] []
theorem yGS:FrOk Tryz.prog ⟨yBw,27,fun _=>none⟩ yAX:=zkp yb yc ⟨yDx,yuC,yR9,trivial⟩
def yHN:Nat→Option Seg:=fun _=>none
abbrev yco:List Par:= [.pt tA (.pr .fz (.pr (.pr .fz .fz) (.pr (.ow (.pr (.ow .fz) (.pr (.ow (.pr .fz .fz)) (.pr .fz (.ow .fz))))) (.pr .fz (.pr .fz (.pr .fz (.pr .fz (.pr .fz (.pr (.ow (.pr .fz .fz)) (.pr .fz (.pr .fz .fz)))))))))))]
abbrev yhu:List OT:= [⟨false,tI,.fz⟩]
def yi0 (a0:dA):Option (ResD yhu×MutD yco) :=
  let r1:=ygB a0.2.1
  let r2:=ylw r1
  bif (inb a0.2.2.2.1 a0.2.2.1.length) then
    let r3:=yab (a0.1,a0.2.1,(a0.2.2.1.set (a0.2.2.2.1).toNat r2),a0.2.2.2.1,0,a0.2.2.2.2.2)
    bif r3.2.2.2.2.2.2.2.2.2.2.1 then
      some ((6,()),(r3,()))
    else
      some ((0,()),(r3,()))
  else none
theorem yNJ (x:InD yco):zjH ⟨yBw,27,yHN⟩ Tryz.f180.results.toList yAX yco yhu x=yi0 x.1:=by kernel_rfl
theorem yJn:ConOk Tryz.prog 180 ⟨yco,yhu,fun x=>yi0 x.1⟩:=zkh (yGS) Tryz.func180 (by kernel_rfl) (by kernel_rfl) Tryz.ntmps180.symm (by decide) (fun x r h=>(yNJ x).trans h)
def ymO (a0:dA):Int×dA:=(bif yd (yz (yD a0)) then 6 else 0,yz (yD a0))
def yh1 (a0:dA):Bool:=yg a0.2.1&&inb a0.2.2.2.1 a0.2.2.1.length
theorem yLX (a0:dA) (hk:zi9 yco (a0,())) (hq:yh1 a0=true):yi0 a0=(fun n=>some ((n.1,()),(n.2,()))) (ymO a0):=by
  simp only [yh1,Bool.and_eq_true]at hq
  have hg:=yam.1 hq.1
  unfold yi0 ymO
  simp only [ygB,wr (show -9223372036854775808≤6+a0.2.1.2 by omega) (by omega),hq.2,ylw,yab]
  show (bif yd (yz (yD a0)) then some ((6,()),(yz (yD a0),())) else some ((0,()),(yz (yD a0),())))=_
  cases yd (yz (yD a0))<;>rfl
def ymP (a0:dA):Option (ResD yhu×MutD yco):=bif yh1 a0 then (fun n=>some ((n.1,()),(n.2,()))) (ymO a0) else none
theorem yMz (a0:dA) (h:yh1 a0=true):ymP a0=(fun n=>some ((n.1,()),(n.2,()))) (ymO a0):=by unfold ymP; rw [h]; rfl
def yxF:Con:=⟨yco,yhu,fun x=>ymP x.1⟩
theorem yMy:ConOk Tryz.prog 180 yxF:=(yJn).mono (fun x r hk h=>zkW h (fun hq=>yLX x.1 hk hq))
end
section
def yFv:Code:=(Tryz.f104.body).getD .skip
def yFW:Env:=zki TT [(73,ymJ),(74,yoW),(180,yxF)] []
theorem yOp:FrOk Tryz.prog ⟨yFW,42,fun _=>none⟩ yFv:=zkp yb yc ⟨yuB,ywA,yMy,trivial⟩
def yQm:Nat→Option Seg:=fun _=>none
abbrev yjx:List Par:= [.rd tA]
abbrev ysW:List OT:= [⟨false,tA,(.pr .fz (.pr (.pr .fz .fz) (.pr (.ow (.pr (.ow .fz) (.pr (.ow (.pr .fz .fz)) (.pr .fz (.ow .fz))))) (.pr .fz (.pr .fz (.pr .fz (.pr .fz (.pr .fz (.pr (.ow (.pr .fz .fz)) (.pr .fz (.pr .fz .fz)))))))))))⟩,⟨false,tI,.fz⟩]
def ypl (a0:dA):Option (ResD ysW×MutD yjx) :=
  let r1:=ybA a0
  let r2:=yd1 a0
  bif (r2 !=0) then
    some ((r1,r2,()),())
  else
    bif (!(a0.2.2.2.1==(-1))) then
      bif (inb a0.2.2.2.1 a0.2.2.1.length) then
        bif (!((((nth a0.2.2.1 a0.2.2.2.1 ([],[],false,[])).2).2).1)) then
          some ((r1,2,()),())
        else
          bif a0.2.2.2.2.2.2.2.2.2.2.2 then
            some ((r1,5,()),())
          else
            bif (leb 59990 a0.2.2.2.2.2.2.2.1) then
              some ((r1,7,()),())
            else
              bnd (ymP r1) fun r3 =>
              some ((r3.2.1,r3.1.1,()),())
      else none
    else
      some ((r1,2,()),())
theorem yUJ (x:InD yjx):zjH ⟨yFW,42,yQm⟩ Tryz.f104.results.toList yFv yjx ysW x=ypl x.1:=by kernel_rfl
theorem yRT:ConOk Tryz.prog 104 ⟨yjx,ysW,fun x=>ypl x.1⟩:=zkh (yOp) Tryz.func104 (by kernel_rfl) (by kernel_rfl) Tryz.ntmps104.symm (by decide) (fun x r h=>(yUJ x).trans h)
def yn4 (a0:dA):dA×Int:=yw a0
theorem yTD (a0:dA) (hk:zi9 yjx (a0,())):ypl a0=(fun n=>some ((n.1,n.2,()),())) (yn4 a0):=by
  unfold ypl yn4 yw
  simp only [ybA,yd1,ydZ]
  cases ha:yr a0
  · rfl
  cases hd:yd a0
  · rw [show a0.2.2.2.2.2.2.2.2.2.2.1=false from hd]
    cases hl:(a0.2.2.2.1== -1)
    · have hi:=yuy ha (beq_eq_false_iff_ne.1 hl)
      rw [hi,yMz a0 (by unfold yh1; rw [ye6 ha,hi]; rfl)]
      cases (nth a0.2.2.1 a0.2.2.2.1 yf).2.2.1<;>cases a0.2.2.2.2.2.2.2.2.2.2.2<;>cases leb 59990 a0.2.2.2.2.2.2.2.1<;>rfl
    · rfl
  · rw [show a0.2.2.2.2.2.2.2.2.2.2.1=true from hd]; rfl
def yDd:Con:=⟨yjx,ysW,fun x=>(fun n=>some ((n.1,n.2,()),())) (yn4 x.1)⟩
theorem yT6:ConOk Tryz.prog 104 yDd:=(yRT).mono (fun x r hk h=>(yTD x.1 hk).trans h)
end
section
def yCq:Code:=(Tryz.f163.body).getD .skip
def yCQ:Env:=zki TT [(224,yta),(228,ymK)] []
theorem yIF:FrOk Tryz.prog ⟨yCQ,17,fun _=>none⟩ yCq:=zkp yb yc ⟨yDy,yuC,trivial⟩
def yJ4:Nat→Option Seg:=fun _=>none
abbrev yjA:List Par:= [.pt tA (.pr .fz (.pr (.pr .fz .fz) (.pr (.ow (.pr (.ow .fz) (.pr (.ow (.pr .fz .fz)) (.pr .fz (.ow .fz))))) (.pr .fz (.pr .fz (.pr .fz (.pr .fz (.pr .fz (.pr (.ow (.pr .fz .fz)) (.pr .fz (.pr .fz .fz)))))))))))]
abbrev yoU:List OT:= []
def yrN (a0:dA):Option (ResD yoU×MutD yjA) :=
  let r1:=yey a0
  bif r1.2.2.2.2.2.2.2.2.2.2.1 then
    some ((),(r1,()))
  else
    let r2:=yab (r1.1,r1.2.1,r1.2.2.1,r1.2.2.2.1,r1.2.2.2.2.1,r1.2.2.2.2.2.1,r1.2.2.2.2.2.1,r1.2.2.2.2.2.2.2)
    some ((),(r2,()))
theorem yQL (x:InD yjA):zjH ⟨yCQ,17,yJ4⟩ Tryz.f163.results.toList yCq yjA yoU x=yrN x.1:=by kernel_rfl
theorem yMj:ConOk Tryz.prog 163 ⟨yjA,yoU,fun x=>yrN x.1⟩:=zkh (yIF) Tryz.func163 (by kernel_rfl) (by kernel_rfl) Tryz.ntmps163.symm (by decide) (fun x r h=>(yQL x).trans h)
def yfo (a0:dA):dA :=
  let r1:=yey a0
  bif r1.2.2.2.2.2.2.2.2.2.2.1 then
    r1
  else
    let r2:=yab (r1.1,r1.2.1,r1.2.2.1,r1.2.2.2.1,r1.2.2.2.2.1,r1.2.2.2.2.2.1,r1.2.2.2.2.2.1,r1.2.2.2.2.2.2.2)
    r2
def yzT:Con:=⟨yjA,yoU,fun x=>(fun n=>some ((),(n,()))) (yfo x.1)⟩
theorem yOV (a0:dA):yrN a0=(fun n=>some ((),(n,()))) (yfo a0):=zkS (p:=fun (n:dA)=>((),(n,()))) (zkx (p:=fun (n:dA)=>((),(n,()))) rfl rfl)
theorem yPH:ConOk Tryz.prog 163 yzT:=(yMj).mono (fun x r _ h=>(yOV x.1).trans h)
theorem yT9 (a:dA):yfo a=yl a:=by
  unfold yfo yl yey yab
  show (bif yd (yL a) then yL a else yz (yqq (yL a)))=_
  rfl
end
section
def yAW:Code:=(Tryz.f181.body).getD .skip
def yBv:Env:=zki TT [(163,yzT),(228,ymK)] []
theorem yGR:FrOk Tryz.prog ⟨yBv,21,fun _=>none⟩ yAW:=zkp yb yc ⟨yPH,yuC,trivial⟩
def yHM:Nat→Option Seg:=fun _=>none
abbrev ygU:List Par:= [.pt tA (.pr .fz (.pr (.pr .fz .fz) (.pr (.ow (.pr (.ow .fz) (.pr (.ow (.pr .fz .fz)) (.pr .fz (.ow .fz))))) (.pr .fz (.pr .fz (.pr .fz (.pr .fz (.pr .fz (.pr (.ow (.pr .fz .fz)) (.pr .fz (.pr .fz .fz)))))))))))]
abbrev ymz:List OT:= [⟨false,tI,.fz⟩]
def ypR (a0:dA):Option (ResD ymz×MutD ygU) :=
  let r1:=yfo a0
  bif r1.2.2.2.2.2.2.2.2.2.2.1 then
    some ((6,()),(r1,()))
  else
    let r2:=yab (r1.1,r1.2.1,r1.2.2.1,(-1),0,r1.2.2.2.2.2)
    bif r2.2.2.2.2.2.2.2.2.2.2.1 then
      some ((6,()),(r2,()))
    else
      some ((0,()),(r2,()))
theorem yNI (x:InD ygU):zjH ⟨yBv,21,yHM⟩ Tryz.f181.results.toList yAW ygU ymz x=ypR x.1:=by kernel_rfl
theorem yJm:ConOk Tryz.prog 181 ⟨ygU,ymz,fun x=>ypR x.1⟩:=zkh (yGR) Tryz.func181 (by kernel_rfl) (by kernel_rfl) Tryz.ntmps181.symm (by decide) (fun x r h=>(yNI x).trans h)
def yhY (a0:dA):Int×dA :=
  let r1:=yfo a0
  bif r1.2.2.2.2.2.2.2.2.2.2.1 then
    (6,r1)
  else
    let r2:=yab (r1.1,r1.2.1,r1.2.2.1,(-1),0,r1.2.2.2.2.2)
    bif r2.2.2.2.2.2.2.2.2.2.2.1 then
      (6,r2)
    else
      (0,r2)
def yxE:Con:=⟨ygU,ymz,fun x=>(fun n=>some ((n.1,()),(n.2,()))) (yhY x.1)⟩
theorem yLW (a0:dA):ypR a0=(fun n=>some ((n.1,()),(n.2,()))) (yhY a0):=zkS (p:=fun (n:Int×dA)=>((n.1,()),(n.2,()))) (zkx (p:=fun (n:Int×dA)=>((n.1,()),(n.2,()))) rfl (zkx (p:=fun (n:Int×dA)=>((n.1,()),(n.2,()))) rfl rfl))
theorem yMx:ConOk Tryz.prog 181 yxE:=(yJm).mono (fun x r _ h=>(yLW x.1).trans h)
end
section
def yFr:Code:=(Tryz.f105.body).getD .skip
def yFS:Env:=zki TT [(73,ymJ),(74,yoW),(181,yxE)] []
theorem yOh:FrOk Tryz.prog ⟨yFS,49,fun _=>none⟩ yFr:=zkp yb yc ⟨yuB,ywA,yMx,trivial⟩
def yQi:Nat→Option Seg:=fun _=>none
abbrev yju:List Par:= [.rd tA]
abbrev ysR:List OT:= [⟨false,tA,(.pr .fz (.pr (.pr .fz .fz) (.pr (.ow (.pr (.ow .fz) (.pr (.ow (.pr .fz .fz)) (.pr .fz (.ow .fz))))) (.pr .fz (.pr .fz (.pr .fz (.pr .fz (.pr .fz (.pr (.ow (.pr .fz .fz)) (.pr .fz (.pr .fz .fz)))))))))))⟩,⟨false,tI,.fz⟩]
def ypi (a0:dA):Option (ResD ysR×MutD yju) :=
  let r1:=ybA a0
  let r2:=yd1 a0
  bif (r2 !=0) then
    some ((r1,r2,()),())
  else
    bif (!(a0.2.2.2.1==(-1))) then
      bif (inb a0.2.2.2.1 a0.2.2.1.length) then
        bif (!((((nth a0.2.2.1 a0.2.2.2.1 ([],[],false,[])).2).2).1)) then
          bif (ltb a0.2.2.2.2.1 a0.2.1.2) then
            some ((r1,2,()),())
          else
            bif a0.2.2.2.2.2.2.2.2.2.2.2 then
              some ((r1,5,()),())
            else
              bif (leb 59990 a0.2.2.2.2.2.2.2.1) then
                some ((r1,7,()),())
              else
                let r3:=yhY r1
                some ((r3.2,r3.1,()),())
        else
          some ((r1,2,()),())
      else none
    else
      some ((r1,2,()),())
theorem yUE (x:InD yju):zjH ⟨yFS,49,yQi⟩ Tryz.f105.results.toList yFr yju ysR x=ypi x.1:=by kernel_rfl
theorem yRO:ConOk Tryz.prog 105 ⟨yju,ysR,fun x=>ypi x.1⟩:=zkh (yOh) Tryz.func105 (by kernel_rfl) (by kernel_rfl) Tryz.ntmps105.symm (by decide) (fun x r h=>(yUE x).trans h)
def ytl (a0:dA):dA×Int:=ysZ a0
theorem yTy (a0:dA) (hk:zi9 yju (a0,())):ypi a0=(fun n=>some ((n.1,n.2,()),())) (ytl a0):=by
  unfold ypi ytl ysZ
  simp only [ybA,yd1,ydZ]
  have hone:yhY a0=((yfQ a0).2,(yfQ a0).1):=by
    unfold yhY yfQ yab
    simp only [yT9]
    show (bif yd (yl a0) then (6,yl a0) else bif yd (yz (yaz (yl a0))) then (6,yz (yaz (yl a0))) else (0,yz (yaz (yl a0))))=_
    cases yd (yl a0)
    · cases yd (yz (yaz (yl a0)))<;>rfl
    · rfl
  rw [hone]
  cases ha:yr a0
  · rfl
  cases hd:yd a0
  · rw [show a0.2.2.2.2.2.2.2.2.2.2.1=false from hd]
    cases hl:(a0.2.2.2.1== -1)
    · rw [yuy ha (beq_eq_false_iff_ne.1 hl)]
      cases (nth a0.2.2.1 a0.2.2.2.1 yf).2.2.1<;>cases ltb a0.2.2.2.2.1 a0.2.1.2<;>cases a0.2.2.2.2.2.2.2.2.2.2.2<;>cases leb 59990 a0.2.2.2.2.2.2.2.1<;>rfl
    · rfl
  · rw [show a0.2.2.2.2.2.2.2.2.2.2.1=true from hd]; rfl
def yDb:Con:=⟨yju,ysR,fun x=>(fun n=>some ((n.1,n.2,()),())) (ytl x.1)⟩
theorem yT4:ConOk Tryz.prog 105 yDb:=(yRO).mono (fun x r hk h=>(yTy x.1 hk).trans h)
end
end
end Go.Tf
