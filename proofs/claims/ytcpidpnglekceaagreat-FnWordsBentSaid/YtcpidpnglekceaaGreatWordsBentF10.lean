/- Functions of the program, and what they come to. -/
import Derived.Test.YtcpidpnglekceaaGreatWordsBentF9
namespace Go.Tf
noncomputable section
open Go.Proofs
set_option synthInstance.maxHeartbeats 400000
set_option synthInstance.maxSize 10000
set_option linter.unusedVariables false
set_option linter.unusedSimpArgs false
set_option maxRecDepth 100000
section
def yxC:Code:=(Tryz.f163.body).getD .skip
def yyg:Env:=zki TT [(230,ysj),(236,yw3),(237,yuo)] [(36928,(.pr .fz .fz))]
theorem yC7:FrOk Tryz.prog ⟨yyg,63,fun _=>none⟩ yxC:=zkp ye yf ⟨yCe,yMj,yJP,trivial⟩
def yEb:Nat→Option Seg:=fun _=>none
abbrev ycR:List Par:= [.pt tA (.pr .fz (.pr (.pr .fz .fz) (.pr (.ow (.pr (.ow .fz) (.pr (.ow (.pr .fz .fz)) (.pr .fz (.ow .fz))))) (.pr .fz (.pr .fz (.pr .fz (.pr .fz (.pr .fz (.pr (.ow (.pr .fz .fz)) (.pr .fz (.pr .fz .fz))))))))))),.rd tI]
abbrev yhF:List OT:= [⟨false,tI,.fz⟩]
def yiz (a0:dA) (a1:Int):Option (ResD yhF×MutD ycR) :=
  let r1:=ygC a0 a1
  bif (ltb r1 0) then
    some ((0,()),(a0,()))
  else
    bif (inb r1 a0.2.2.2.2.2.2.2.2.1.length) then
      let r2:=yal a0 a1 ((nth a0.2.2.2.2.2.2.2.2.1 r1 (0,[])).2)
      bif (r2 !=0) then
        some ((r2,()),(a0,()))
      else
        bif (inb r1 a0.2.2.2.2.2.2.2.2.1.length) then
          bnd (ylR a0 a1 ((nth a0.2.2.2.2.2.2.2.2.1 r1 (0,[])).2)) fun r3 =>
          bif (r3.1.1==0) then
            bif (zjG 0 r1 r3.2.1.2.2.2.2.2.2.2.2.1.length) then
              bif (zj4 ([]:List dW).length ((r3.2.1.2.2.2.2.2.2.2.2.1.drop (0:Int).toNat).take (r1 - 0).toNat).length 32) then
                bif (zjG (IntKind.i64.wrap (r1+1)) (r3.2.1.2.2.2.2.2.2.2.2.1.length:Int) r3.2.1.2.2.2.2.2.2.2.2.1.length) then
                  bif (zj4 (([]:List dW)++((r3.2.1.2.2.2.2.2.2.2.2.1.drop (0:Int).toNat).take (r1 - 0).toNat)).length ((r3.2.1.2.2.2.2.2.2.2.2.1.drop ((IntKind.i64.wrap (r1+1))).toNat).take ((r3.2.1.2.2.2.2.2.2.2.2.1.length:Int) - (IntKind.i64.wrap (r1+1))).toNat).length 32) then
                    some ((r3.1.1,()),((r3.2.1.1,r3.2.1.2.1,r3.2.1.2.2.1,r3.2.1.2.2.2.1,r3.2.1.2.2.2.2.1,r3.2.1.2.2.2.2.2.1,r3.2.1.2.2.2.2.2.2.1,r3.2.1.2.2.2.2.2.2.2.1,((([]:List dW)++((r3.2.1.2.2.2.2.2.2.2.2.1.drop (0:Int).toNat).take (r1 - 0).toNat))++((r3.2.1.2.2.2.2.2.2.2.2.1.drop ((IntKind.i64.wrap (r1+1))).toNat).take ((r3.2.1.2.2.2.2.2.2.2.2.1.length:Int) - (IntKind.i64.wrap (r1+1))).toNat)),r3.2.1.2.2.2.2.2.2.2.2.2),()))
                  else none
                else none
              else none
            else none
          else
            some ((r3.1.1,()),(r3.2.1,()))
        else none
    else none
theorem yKP (x:InD ycR):zjH ⟨yyg,63,yEb⟩ Tryz.f163.results.toList yxC ycR yhF x=yiz x.1 x.2.1:=by kernel_rfl
theorem yGq:ConOk Tryz.prog 163 ⟨ycR,yhF,fun x=>yiz x.1 x.2.1⟩:=zkh (yC7) Tryz.func163 (by kernel_rfl) (by kernel_rfl) Tryz.ntmps163.symm (by decide) (fun x r h=>(yKP x).trans h)
def yhX (a0:dA) (a1:Int):Int×dA:=yhK a0 a1
def yri (a0:dA) (a1:Int):Bool:=decide (a0.2.2.2.2.2.2.2.2.1.length≤1000)
theorem yI3 (a0:dA) (a1:Int) (hk:zi9 ycR (a0,a1,())) (hq:yri a0 a1=true):yiz a0 a1=(fun n=>some ((n.1,()),(n.2,()))) (yhX a0 a1):=by
  have hq:=of_decide_eq_true hq
  unfold yiz yhX yhK
  simp only [ygC]
  cases h0:ltb (yT a0.2.2.2.2.2.2.2.2.1 a1) 0
  · have h1:=zkU h0
    have hi:inb (yT a0.2.2.2.2.2.2.2.2.1 a1) a0.2.2.2.2.2.2.2.2.1.length=true:=(yuZ (d:=((0:Int),([]:List Int))) (zk0 h1)).1
    simp only [hi,cond_true,cond_false]
    generalize hD:(nth a0.2.2.2.2.2.2.2.2.1 (yT a0.2.2.2.2.2.2.2.2.1 a1) (0,[])).2=D
    cases hc:(yal a0 a1 D !=0)
    · obtain ⟨ha,hl,hw,hd,hs,hb,_⟩:=yMv (bne_eq_false_iff_eq.1 hc)
      rw [yJU a0 a1 D (by unfold yhZ; rw [hs,hl,yrD ha]; simp)]
      simp only [zky,cond_false,yhW,yPp]
      have hk:=zjP.1 hi
      cases hr:((ydS a0 a1 D).1==0)
      · rfl
      · generalize yT a0.2.2.2.2.2.2.2.2.1 a1=K at h1 hk
        rw [wr (show -9223372036854775808≤K+1 by omega) (by omega),zko.2 (show (0:Int)≤0∧0≤K∧K≤(a0.2.2.2.2.2.2.2.2.1.length:Int) by omega),zko.2 (show 0≤K+1∧K+1≤(a0.2.2.2.2.2.2.2.2.1.length:Int)∧(a0.2.2.2.2.2.2.2.2.1.length:Int)≤(a0.2.2.2.2.2.2.2.2.1.length:Int) by omega),
          zkw.2 (by rw [List.length_take,List.length_drop,List.length_nil]; omega),zkw.2 (by rw [List.length_append,List.length_take,List.length_take,List.length_drop,List.length_drop,List.length_nil]; omega),yPY h1 hk.2]
        rw [beq_iff_eq.1 hr]; rfl
    · rfl
  · rfl
def yx (a0:dA) (a1:Int):Option (ResD yhF×MutD ycR):=bif yri a0 a1 then (fun n=>some ((n.1,()),(n.2,()))) (yhX a0 a1) else none
theorem yxg (a0:dA) (a1:Int) (h:yri a0 a1=true):yx a0 a1=(fun n=>some ((n.1,()),(n.2,()))) (yhX a0 a1):=by unfold yx; rw [h]; rfl
def yn9:Con:=⟨ycR,yhF,fun x=>yx x.1 x.2.1⟩
theorem yxf:ConOk Tryz.prog 163 yn9:=(yGq).mono (fun x r hk h=>zkW h (fun hq=>yI3 x.1 x.2.1 hk hq))
end
section
def ykH:Code:=(Tryz.f164.body).getD .skip
def yo9:Env:=zki TT [(163,yn9)] []
theorem yIx:FrOk Tryz.prog ⟨yo9,22,fun _=>none⟩ ykH:=zkp ye yf ⟨yxf,trivial⟩
def yx3:Nat→Option Seg:=fun _=>none
def ycS:Shape:=⟨[(0,false,[.ptr 1000000000 0])],[(1000000000,[.int .i64,.int .i64,.int .i64,.at 800000000,.int .i64,.int .i64,.int .i64,.int .i64,.int .i64,.at 800000001,.int .i64,.bool,.bool])],[(800000000,tM,(.pr (.ow .fz) (.pr (.ow (.pr .fz .fz)) (.pr .fz (.ow .fz))))),(800000001,tW,(.pr .fz .fz))]⟩
def yhx:Shape:=⟨[(0,false,[.ptr 1000000000 0])],[(1000000000,[.int .i64,.int .i64,.int .i64,.at 800000000,.int .i64,.int .i64,.int .i64,.int .i64,.int .i64,.at 800000001,.int .i64,.bool,.bool])],[(800000000,tM,(.pr (.ow .fz) (.pr (.ow (.pr .fz .fz)) (.pr .fz (.ow .fz))))),(800000001,tW,(.pr .fz .fz))]⟩
def yhv:Shape:=⟨[],[(1000000000,[.int .i64,.int .i64,.int .i64,.at 800000000,.int .i64,.int .i64,.int .i64,.int .i64,.int .i64,.at 800000001,.int .i64,.bool,.bool])],[(800000000,tM,(.pr (.ow .fz) (.pr (.ow (.pr .fz .fz)) (.pr .fz (.ow .fz))))),(800000001,tW,(.pr .fz .fz))]⟩
def yhG:Shape:=⟨[(2,false,[.int .i64])],[(1000000000,[.int .i64,.int .i64,.int .i64,.at 800000000,.int .i64,.int .i64,.int .i64,.int .i64,.int .i64,.at 800000001,.int .i64,.bool,.bool])],[(800000000,tM,(.pr (.ow .fz) (.pr (.ow (.pr .fz .fz)) (.pr .fz (.ow .fz))))),(800000001,tW,(.pr .fz .fz))]⟩
abbrev yp7 (v0:dA):(ycS).X:=((((),()),()),((v0.1,v0.2.1.1,v0.2.1.2,(),v0.2.2.2.1,v0.2.2.2.2.1,v0.2.2.2.2.2.1,v0.2.2.2.2.2.2.1,v0.2.2.2.2.2.2.2.1,(),v0.2.2.2.2.2.2.2.2.2.1,v0.2.2.2.2.2.2.2.2.2.2.1,v0.2.2.2.2.2.2.2.2.2.2.2,()),()),(v0.2.2.1,v0.2.2.2.2.2.2.2.2.1,()))
abbrev yIK (v0:dA):(yhx).X:=((((),()),()),((v0.1,v0.2.1.1,v0.2.1.2,(),v0.2.2.2.1,v0.2.2.2.2.1,v0.2.2.2.2.2.1,v0.2.2.2.2.2.2.1,v0.2.2.2.2.2.2.2.1,(),v0.2.2.2.2.2.2.2.2.2.1,v0.2.2.2.2.2.2.2.2.2.2.1,v0.2.2.2.2.2.2.2.2.2.2.2,()),()),(v0.2.2.1,v0.2.2.2.2.2.2.2.2.1,()))
abbrev yII (v0:dA):(yhv).X:=((),((v0.1,v0.2.1.1,v0.2.1.2,(),v0.2.2.2.1,v0.2.2.2.2.1,v0.2.2.2.2.2.1,v0.2.2.2.2.2.2.1,v0.2.2.2.2.2.2.2.1,(),v0.2.2.2.2.2.2.2.2.2.1,v0.2.2.2.2.2.2.2.2.2.2.1,v0.2.2.2.2.2.2.2.2.2.2.2,()),()),(v0.2.2.1,v0.2.2.2.2.2.2.2.2.1,()))
abbrev yIM (v0:Int) (v1:dA):(yhG).X:=(((v0,()),()),((v1.1,v1.2.1.1,v1.2.1.2,(),v1.2.2.2.1,v1.2.2.2.2.1,v1.2.2.2.2.2.1,v1.2.2.2.2.2.2.1,v1.2.2.2.2.2.2.2.1,(),v1.2.2.2.2.2.2.2.2.2.1,v1.2.2.2.2.2.2.2.2.2.2.1,v1.2.2.2.2.2.2.2.2.2.2.2,()),()),(v1.2.2.1,v1.2.2.2.2.2.2.2.2.1,()))
def yqz (v0:Int) (v1:Int) (v2:Int) (v3:Int) (v4:Int) (v5:Int) (v6:Int) (v7:Int) (v8:Int) (v9:Bool) (v10:Bool) (v11:List dM) (v12:List dW):Option ((ycS).X ⊕ ((yhv).X ⊕ (yhG).X)) :=
  bif (ltb 0 (v12.length:Int)) then
    bif (inb 0 v12.length) then
      bnd (yx (v0,(v1,v2),v11,v3,v4,v5,v6,v7,v12,v8,v9,v10) ((nth v12 0 (0,[])).1)) fun r2 =>
      bif (r2.1.1 !=0) then
        some (.inr (.inr (((r2.1.1,()),()),((r2.2.1.1,r2.2.1.2.1.1,r2.2.1.2.1.2,(),r2.2.1.2.2.2.1,r2.2.1.2.2.2.2.1,r2.2.1.2.2.2.2.2.1,r2.2.1.2.2.2.2.2.2.1,r2.2.1.2.2.2.2.2.2.2.1,(),r2.2.1.2.2.2.2.2.2.2.2.2.1,r2.2.1.2.2.2.2.2.2.2.2.2.2.1,r2.2.1.2.2.2.2.2.2.2.2.2.2.2,()),()),(r2.2.1.2.2.1,r2.2.1.2.2.2.2.2.2.2.2.1,()))))
      else
        some (.inl ((((),()),()),((r2.2.1.1,r2.2.1.2.1.1,r2.2.1.2.1.2,(),r2.2.1.2.2.2.1,r2.2.1.2.2.2.2.1,r2.2.1.2.2.2.2.2.1,r2.2.1.2.2.2.2.2.2.1,r2.2.1.2.2.2.2.2.2.2.1,(),r2.2.1.2.2.2.2.2.2.2.2.2.1,r2.2.1.2.2.2.2.2.2.2.2.2.2.1,r2.2.1.2.2.2.2.2.2.2.2.2.2.2,()),()),(r2.2.1.2.2.1,r2.2.1.2.2.2.2.2.2.2.2.1,())))
    else none
  else
    some (.inr (.inl ((),((v0,v1,v2,(),v3,v4,v5,v6,v7,(),v8,v9,v10,()),()),(v11,v12,()))))
def ycW (x:(ycS).X):=yqz x.2.1.1.1 x.2.1.1.2.1 x.2.1.1.2.2.1 x.2.1.1.2.2.2.2.1 x.2.1.1.2.2.2.2.2.1 x.2.1.1.2.2.2.2.2.2.1 x.2.1.1.2.2.2.2.2.2.2.1 x.2.1.1.2.2.2.2.2.2.2.2.1 x.2.1.1.2.2.2.2.2.2.2.2.2.2.1 x.2.1.1.2.2.2.2.2.2.2.2.2.2.2.1 x.2.1.1.2.2.2.2.2.2.2.2.2.2.2.2.1 x.2.2.1 x.2.2.2.1
def yw6 (x:(yhx).X):(ycS).X:=((((),()),()),((x.2.1.1.1,x.2.1.1.2.1,x.2.1.1.2.2.1,(),x.2.1.1.2.2.2.2.1,x.2.1.1.2.2.2.2.2.1,x.2.1.1.2.2.2.2.2.2.1,x.2.1.1.2.2.2.2.2.2.2.1,x.2.1.1.2.2.2.2.2.2.2.2.1,(),x.2.1.1.2.2.2.2.2.2.2.2.2.2.1,x.2.1.1.2.2.2.2.2.2.2.2.2.2.2.1,x.2.1.1.2.2.2.2.2.2.2.2.2.2.2.2.1,()),()),(x.2.2.1,x.2.2.2.1,()))
def yyk:Code:=(zdI ykH 64 24).getD .skip
theorem yKx:zdI ykH 64 6=some (.block 0 (.loop yyk)):=by kernel_rfl
theorem yMn (x:(ycS).X):zg7 ⟨yo9,22,yx3⟩ 0 yyk 24 ycS yhv yhG x=ycW x:=by kernel_rfl
def yw8 (x:(yhx).X):Nat:=(fun (u0:Int) (u1:Int) (u2:Int) (u3:Int) (u4:Int) (u5:Int) (u6:Int) (u7:Int) (u8:Int) (u9:Bool) (u10:Bool) (u11:List dM) (u12:List dW)=>18446744073709551616) x.2.1.1.1 x.2.1.1.2.1 x.2.1.1.2.2.1 x.2.1.1.2.2.2.2.1 x.2.1.1.2.2.2.2.2.1 x.2.1.1.2.2.2.2.2.2.1 x.2.1.1.2.2.2.2.2.2.2.1 x.2.1.1.2.2.2.2.2.2.2.2.1 x.2.1.1.2.2.2.2.2.2.2.2.2.2.1 x.2.1.1.2.2.2.2.2.2.2.2.2.2.2.1 x.2.1.1.2.2.2.2.2.2.2.2.2.2.2.2.1 x.2.2.1 x.2.2.2.1
def yqU (x:(yhx).X):Option ((yhv).X ⊕ (yhG).X):=zr ycW (yw8 x) (yw6 x)
def yxh:Seg:=⟨yhx,yhv,yhG,yqU⟩
def yx4:Nat→Option Seg:=fun q=>bif Nat.beq q 6 then some yxh else yx3 q
theorem yIy:FrOk Tryz.prog ⟨yo9,22,yx4⟩ ykH:=(yIx).loop (sg:=yxh) ycS yw6 (by decide) yKx ycW yw8 (by decide) (fun _=>rfl) (fun x r _ h=>h) yMn
abbrev yem:List Par:= [.pt tA (.pr .fz (.pr (.pr .fz .fz) (.pr (.ow (.pr (.ow .fz) (.pr (.ow (.pr .fz .fz)) (.pr .fz (.ow .fz))))) (.pr .fz (.pr .fz (.pr .fz (.pr .fz (.pr .fz (.pr (.ow (.pr .fz .fz)) (.pr .fz (.pr .fz .fz)))))))))))]
abbrev yk0:List OT:= [⟨false,tI,.fz⟩]
def yl6 (a0:dA):Option (ResD yk0×MutD yem) :=
  zjw (yqU ((((),()),()),((a0.1,a0.2.1.1,a0.2.1.2,(),a0.2.2.2.1,a0.2.2.2.2.1,a0.2.2.2.2.2.1,a0.2.2.2.2.2.2.1,a0.2.2.2.2.2.2.2.1,(),a0.2.2.2.2.2.2.2.2.2.1,a0.2.2.2.2.2.2.2.2.2.2.1,a0.2.2.2.2.2.2.2.2.2.2.2,()),()),(a0.2.2.1,a0.2.2.2.2.2.2.2.2.1,()))) (fun y2 =>
    some ((0,()),((y2.2.1.1.1,(y2.2.1.1.2.1,y2.2.1.1.2.2.1),y2.2.2.1,y2.2.1.1.2.2.2.2.1,y2.2.1.1.2.2.2.2.2.1,y2.2.1.1.2.2.2.2.2.2.1,y2.2.1.1.2.2.2.2.2.2.2.1,y2.2.1.1.2.2.2.2.2.2.2.2.1,y2.2.2.2.1,y2.2.1.1.2.2.2.2.2.2.2.2.2.2.1,y2.2.1.1.2.2.2.2.2.2.2.2.2.2.2.1,y2.2.1.1.2.2.2.2.2.2.2.2.2.2.2.2.1),()))) (fun y2 =>
    some ((y2.1.1.1,()),((y2.2.1.1.1,(y2.2.1.1.2.1,y2.2.1.1.2.2.1),y2.2.2.1,y2.2.1.1.2.2.2.2.1,y2.2.1.1.2.2.2.2.2.1,y2.2.1.1.2.2.2.2.2.2.1,y2.2.1.1.2.2.2.2.2.2.2.1,y2.2.1.1.2.2.2.2.2.2.2.2.1,y2.2.2.2.1,y2.2.1.1.2.2.2.2.2.2.2.2.2.2.1,y2.2.1.1.2.2.2.2.2.2.2.2.2.2.2.1,y2.2.1.1.2.2.2.2.2.2.2.2.2.2.2.2.1),())))
theorem yON (x:InD yem):zjH ⟨yo9,22,yx4⟩ Tryz.f164.results.toList ykH yem yk0 x=yl6 x.1:=by kernel_rfl
theorem yLU:ConOk Tryz.prog 164 ⟨yem,yk0,fun x=>yl6 x.1⟩:=zkh (yIy) Tryz.func164 (by kernel_rfl) (by kernel_rfl) Tryz.ntmps164.symm (by decide) (fun x r h=>(yON x).trans h)
def yqa (a0:dA):Int×dA:=yQp a0
def yvg (a0:dA):Bool:=decide (a0.2.2.2.2.2.2.2.2.1.length≤1000)
theorem yNO (a0:dA) (hk:zi9 yem (a0,())) (hq:yvg a0=true):yl6 a0=(fun n=>some ((n.1,()),(n.2,()))) (yqa a0):=by
  have hq:=of_decide_eq_true hq
  have h1:=zkr (step:=ycW) a0.2.2.2.2.2.2.2.2.1.length (fun _ s=>yp7 s) yEp (fun i s=>s.2.2.2.2.2.2.2.2.1.length+i=a0.2.2.2.2.2.2.2.2.1.length) (fun b=>(0,b))
    (fun r=>bif r.1==0 then .inl (yII r.2) else .inr (yIM r.1 r.2)) (fun i s hi hs=>by
      have hp:0 < s.2.2.2.2.2.2.2.2.1.length:=by omega
      constructor
      · simp only [ycW,yp7,yqz,zkV,zjI (show (0:Int) < (s.2.2.2.2.2.2.2.2.1.length:Int) by omega),cond_true,show inb 0 s.2.2.2.2.2.2.2.2.1.length=true from zkO (i:=0) hp]
        rw [yxg s (nth s.2.2.2.2.2.2.2.2.1 0 (0,[])).1 (decide_eq_true (show s.2.2.2.2.2.2.2.2.1.length≤1000 by omega))]
        simp only [zky,yhX]
        unfold yEp
        generalize yhK s (nth s.2.2.2.2.2.2.2.2.1 0 (0,[])).1=R
        cases hr:(R.1 !=0)
        · rfl
        · simp only [cond_true]
          rw [show (R.1==0)=false from beq_eq_false_iff_ne.2 (bne_iff_ne.1 hr)]; rfl
      · intro s' h
        unfold yEp at h
        cases hr:((yhK s (nth s.2.2.2.2.2.2.2.2.1 0 (0,[])).1).1 !=0)
        · rw [hr]at h
          simp only [cond_false,Sum.inl.injEq]at h
          rw [← h,yPG hp (bne_eq_false_iff_eq.1 hr),List.length_drop]; omega
        · rw [hr]at h; cases h) (fun s hs=>by
      simp only [ycW,yp7,yqz,show ltb 0 (s.2.2.2.2.2.2.2.2.1.length:Int)=false from zkm (by omega)]; rfl) a0 rfl 18446744073709551616 (by omega)
  unfold yl6 yqa yQp
  refine (congrArg (fun z=>zjw z _ _) (show yqU (yIK a0)=_ from h1)).trans ?_
  generalize goE yEp (fun b=>(0,b)) a0.2.2.2.2.2.2.2.2.1.length 0 a0=R
  cases hr:(R.1==0)
  · rfl
  · simp only [cond_true,zkJ,zkV]
    rw [show R.1=0 from beq_iff_eq.1 hr]
def yI (a0:dA):Option (ResD yk0×MutD yem):=bif yvg a0 then (fun n=>some ((n.1,()),(n.2,()))) (yqa a0) else none
theorem yOa (a0:dA) (h:yvg a0=true):yI a0=(fun n=>some ((n.1,()),(n.2,()))) (yqa a0):=by unfold yI; rw [h]; rfl
def yyA:Con:=⟨yem,yk0,fun x=>yI x.1⟩
theorem yN7:ConOk Tryz.prog 164 yyA:=(yLU).mono (fun x r hk h=>zkW h (fun hq=>yNO x.1 hk hq))
end
section
def yzL:Code:=(Tryz.f174.body).getD .skip
def yAc:Env:=zki TT [(109,ycU)] []
theorem yEY:FrOk Tryz.prog ⟨yAc,6,fun _=>none⟩ yzL:=zkp ye yf ⟨yfs,trivial⟩
def yG7:Nat→Option Seg:=fun _=>none
abbrev yiZ:List Par:= [.pt tU .fz]
abbrev ynz:List OT:= [⟨false,tI,.fz⟩]
def yQ (a0:dU):Option (ResD ynz×MutD yiZ) :=
  bnd (yy a0 ([0,1,2,7,255,256,4660,65535]:List Int)) fun r1 =>
  some ((r1.1.1,()),(r1.2.1,()))
theorem yNe (x:InD yiZ):zjH ⟨yAc,6,yG7⟩ Tryz.f174.results.toList yzL yiZ ynz x=yQ x.1:=by kernel_rfl
theorem yJq:ConOk Tryz.prog 174 ⟨yiZ,ynz,fun x=>yQ x.1⟩:=zkh (yEY) Tryz.func174 (by kernel_rfl) (by kernel_rfl) Tryz.ntmps174.symm (by decide) (fun x r h=>(yNe x).trans h)
def ypY:Con:=⟨yiZ,ynz,fun x=>yQ x.1⟩
theorem yyS:ConOk Tryz.prog 174 ypY:=yJq
theorem yPt (u:List Int×Int×Int) (h:yM u): ∃ (r:Int) (u':List Int×Int×Int),yQ u=some ((r,()),(u',()))∧yb r 0 65535=true∧yM u':=by
  unfold yQ
  obtain ⟨r1,u1,e1,q1,d1⟩:=yjb u [0,1,2,7,255,256,4660,65535] h (by simp)
  simp only [e1,zky]
  refine ⟨_,_,rfl,?_,d1⟩
  simp only [List.mem_cons,List.not_mem_nil,or_false]at q1
  exact yRQ (by omega) (by omega)
end
section
def yvL:Code:=(Tryz.f199.body).getD .skip
def ywk:Env:=zki TT [(190,yj5),(191,yj6),(210,yj8)] []
theorem yBO:FrOk Tryz.prog ⟨ywk,27,fun _=>none⟩ yvL:=zkp ye yf ⟨yq7,yq8,yra,trivial⟩
def yCy:Nat→Option Seg:=fun _=>none
abbrev ybL:List Par:= [.pt tA (.pr .fz (.pr (.pr .fz .fz) (.pr (.ow (.pr (.ow .fz) (.pr (.ow (.pr .fz .fz)) (.pr .fz (.ow .fz))))) (.pr .fz (.pr .fz (.pr .fz (.pr .fz (.pr .fz (.pr (.ow (.pr .fz .fz)) (.pr .fz (.pr .fz .fz)))))))))))]
abbrev ygc:List OT:= [⟨false,tI,.fz⟩]
def yg1 (a0:dA):Option (ResD ygc×MutD ybL) :=
  let r1:=ya4 a0.2.1
  let r2:=yaJ r1
  bif (inb a0.2.2.2.1 a0.2.2.1.length) then
    let r3:=yam (a0.1,a0.2.1,(a0.2.2.1.set (a0.2.2.2.1).toNat r2),a0.2.2.2.1,0,a0.2.2.2.2.2)
    bif r3.2.2.2.2.2.2.2.2.2.2.1 then
      some ((6,()),(r3,()))
    else
      some ((0,()),(r3,()))
  else none
theorem yHK (x:InD ybL):zjH ⟨ywk,27,yCy⟩ Tryz.f199.results.toList yvL ybL ygc x=yg1 x.1:=by kernel_rfl
theorem yDG:ConOk Tryz.prog 199 ⟨ybL,ygc,fun x=>yg1 x.1⟩:=zkh (yBO) Tryz.func199 (by kernel_rfl) (by kernel_rfl) Tryz.ntmps199.symm (by decide) (fun x r h=>(yHK x).trans h)
def yka (a0:dA):Int×dA:=(bif yo (yau (yaG a0)) then 6 else 0,yau (yaG a0))
def ygw (a0:dA):Bool:=yd a0.2.1&&inb a0.2.2.2.1 a0.2.2.1.length
theorem yF7 (a0:dA) (hk:zi9 ybL (a0,())) (hq:ygw a0=true):yg1 a0=(fun n=>some ((n.1,()),(n.2,()))) (yka a0):=by
  simp only [ygw,Bool.and_eq_true]at hq
  have hg:=yn.1 hq.1
  unfold yg1 yka
  simp only [ya4,wr (show -9223372036854775808≤6+a0.2.1.2 by omega) (by omega),hq.2,yaJ,yam]
  show (bif yo (yau (yaG a0)) then some ((6,()),(yau (yaG a0),())) else some ((0,()),(yau (yaG a0),())))=_
  cases yo (yau (yaG a0))<;>rfl
def yw (a0:dA):Option (ResD ygc×MutD ybL):=bif ygw a0 then (fun n=>some ((n.1,()),(n.2,()))) (yka a0) else none
theorem yGx (a0:dA) (h:ygw a0=true):yw a0=(fun n=>some ((n.1,()),(n.2,()))) (yka a0):=by unfold yw; rw [h]; rfl
def ysM:Con:=⟨ybL,ygc,fun x=>yw x.1⟩
theorem yGv:ConOk Tryz.prog 199 ysM:=(yDG).mono (fun x r hk h=>zkW h (fun hq=>yF7 x.1 hk hq))
end
section
def yxy:Code:=(Tryz.f201.body).getD .skip
def yyc:Env:=zki TT [(121,yb3),(167,yii),(249,yhJ)] []
theorem yCX:FrOk Tryz.prog ⟨yyc,49,fun _=>none⟩ yxy:=zkp ye yf ⟨yea,yqe,ynR,trivial⟩
def yD7:Nat→Option Seg:=fun _=>none
abbrev ycM:List Par:= [.pt tA (.pr .fz (.pr (.pr .fz .fz) (.pr (.ow (.pr (.ow .fz) (.pr (.ow (.pr .fz .fz)) (.pr .fz (.ow .fz))))) (.pr .fz (.pr .fz (.pr .fz (.pr .fz (.pr .fz (.pr (.ow (.pr .fz .fz)) (.pr .fz (.pr .fz .fz)))))))))))]
abbrev yhB:List OT:= [⟨false,tI,.fz⟩]
def yiu (a0:dA):Option (ResD yhB×MutD ycM) :=
  bnd (yd9 a0 a0.2.2.2.2.1) fun r1 =>
  bif (!r1.1.2.1) then
    some ((5,()),(a0,()))
  else
    let r2:=yh a0.2.2.2.2.1
    bif (inb a0.2.2.2.1 r1.1.1.length) then
      bnd (ydb a0 a0.2.2.2.1 r2 ([(nth r1.1.1 a0.2.2.2.1 0)]:List Int)) fun r3 =>
      bif r3.2.1.2.2.2.2.2.2.2.2.2.2.1 then
        some ((6,()),(r3.2.1,()))
      else
        some ((0,()),((r3.2.1.1,r3.2.1.2.1,r3.2.1.2.2.1,r3.2.1.2.2.2.1,(IntKind.i64.wrap (r3.2.1.2.2.2.2.1+1)),r3.2.1.2.2.2.2.2),()))
    else none
theorem yKI (x:InD ycM):zjH ⟨yyc,49,yD7⟩ Tryz.f201.results.toList yxy ycM yhB x=yiu x.1:=by kernel_rfl
theorem yGj:ConOk Tryz.prog 201 ⟨ycM,yhB,fun x=>yiu x.1⟩:=zkh (yCX) Tryz.func201 (by kernel_rfl) (by kernel_rfl) Tryz.ntmps201.symm (by decide) (fun x r h=>(yKI x).trans h)
def ylN (a0:dA):Int×dA:=yl9 a0
def yhY (a0:dA):Bool:=yd a0.2.1&&(inb a0.2.2.2.1 a0.2.2.1.length&&inb a0.2.2.2.1 a0.2.1.1.toNat)
theorem yIX (a0:dA) (hk:zi9 ycM (a0,())) (hq:yhY a0=true):yiu a0=(fun n=>some ((n.1,()),(n.2,()))) (ylN a0):=by
  simp only [yhY,Bool.and_eq_true]at hq
  unfold yiu ylN yl9
  rw [yqf a0 a0.2.2.2.2.1 hq.1]
  simp only [zky,yd8,ycV]
  cases hw:(yH a0 a0.2.2.2.2.1).2
  · rfl
  · rw [yCk hw,hq.2.2,yjs a0 a0.2.2.2.1 (ycH a0.2.2.2.2.1) [nth (yH a0 a0.2.2.2.2.1).1 a0.2.2.2.1 0] hq.2.1]
    simp only [zky,ylf,Bool.not_true,cond_false,cond_true]
    show (bif yo (yaU a0) then some ((6,()),(yaU a0,())) else some ((0,()),(yQe (yaU a0),())))=_
    cases yo (yaU a0)<;>rfl
def yk (a0:dA):Option (ResD yhB×MutD ycM):=bif yhY a0 then (fun n=>some ((n.1,()),(n.2,()))) (ylN a0) else none
theorem yJS (a0:dA) (h:yhY a0=true):yk a0=(fun n=>some ((n.1,()),(n.2,()))) (ylN a0):=by unfold yk; rw [h]; rfl
def yum:Con:=⟨ycM,yhB,fun x=>yk x.1⟩
theorem yJN:ConOk Tryz.prog 201 yum:=(yGj).mono (fun x r hk h=>zkW h (fun hq=>yIX x.1 hk hq))
end
section
def yzQ:Code:=(Tryz.f223.body).getD .skip
def yAh:Env:=zki TT [(116,yul),(120,ymm),(121,yb3),(124,yD),(132,ywW),(159,yyC),(163,yn9),(164,yyA),(173,yj4),(174,ypY),(199,ysM),(201,yum),(229,yn8)] []
theorem yFe:FrOk Tryz.prog ⟨yAh,160,fun _=>none⟩ yzQ:=zkp ye yf ⟨yJM,yvc,yea,yL,yMc,yN9,yxf,yN7,yq6,yyS,yGv,yJN,yxe,trivial⟩
def yHc:Nat→Option Seg:=fun _=>none
abbrev yU:List Par:= [.pt tU .fz,.pt tA (.pr .fz (.pr (.pr .fz .fz) (.pr (.ow (.pr (.ow .fz) (.pr (.ow (.pr .fz .fz)) (.pr .fz (.ow .fz))))) (.pr .fz (.pr .fz (.pr .fz (.pr .fz (.pr .fz (.pr (.ow (.pr .fz .fz)) (.pr .fz (.pr .fz .fz)))))))))))]
abbrev yaj:List OT:= []
def yds (a0:dU) (a1:dA):Option (ResD yaj×MutD yU) :=
  bnd (ya a0 14) fun r1 =>
  bif (r1.1.1==0) then
    bif (r1.1.1==0) then
      let r2:=yr a1.2.1
      bnd (ya r1.2.1 r2) fun r3 =>
      bnd (yQ r3.2.1) fun r4 =>
      bnd (ydc a1 r3.1.1 r4.1.1) fun r5 =>
      some ((),(r4.2.1,r5.2.1,()))
    else
      bif (r1.1.1==4) then
        bif (r1.1.1==4) then
          bnd (ya r1.2.1 a1.2.1.2) fun r6 =>
          bnd (yx a1 r6.1.1) fun r7 =>
          some ((),(r6.2.1,r7.2.1,()))
        else
          bif (r1.1.1==7) then
            bnd (yI a1) fun r8 =>
            some ((),(r1.2.1,r8.2.1,()))
          else
            bif (r1.1.1==8) then
              bnd (yc r1.2.1 3) fun r9 =>
              bif r9.1.1 then
                bif (a1.2.2.2.1==(-1)) then
                  bnd (ya r9.2.1 a1.2.1.1) fun r10 =>
                  bnd (yA a1 r10.1.1) fun r11 =>
                  some ((),(r10.2.1,r11.2.1,()))
                else
                  some ((),(r9.2.1,a1,()))
              else
                some ((),(r9.2.1,a1,()))
            else
              bif (r1.1.1==9) then
                bif (leb 0 a1.2.2.2.1) then
                  bif (inb a1.2.2.2.1 a1.2.2.1.length) then
                    bif (((nth a1.2.2.1 a1.2.2.2.1 ([],[],false,[])).2).2).1 then
                      bnd (yw a1) fun r12 =>
                      some ((),(r1.2.1,r12.2.1,()))
                    else
                      some ((),(r1.2.1,a1,()))
                  else none
                else
                  some ((),(r1.2.1,a1,()))
              else
                bif (r1.1.1==10) then
                  bif (r1.1.1==10) then
                    bif (leb 0 a1.2.2.2.1) then
                      bif (inb a1.2.2.2.1 a1.2.2.1.length) then
                        bif (!((((nth a1.2.2.1 a1.2.2.2.1 ([],[],false,[])).2).2).1)) then
                          bif (ltb a1.2.2.2.2.1 a1.2.1.2) then
                            bnd (yk a1) fun r13 =>
                            some ((),(r1.2.1,r13.2.1,()))
                          else
                            some ((),(r1.2.1,a1,()))
                        else
                          some ((),(r1.2.1,a1,()))
                      else none
                    else
                      some ((),(r1.2.1,a1,()))
                  else
                    bif (r1.1.1==12) then
                      let r14:=yj a1
                      some ((),(r1.2.1,r14,()))
                    else
                      bif (a1.2.2.2.1==(-1)) then
                        bnd (yc r1.2.1 3) fun r15 =>
                        bif r15.1.1 then
                          bnd (ya r15.2.1 a1.2.1.1) fun r16 =>
                          bif (inb r16.1.1 a1.2.2.1.length) then
                            bnd (ya r16.2.1 a1.2.1.2) fun r17 =>
                            let r18:=yh r17.1.1
                            let r19:=yi ((nth a1.2.2.1 r16.1.1 ([],[],false,[])).1,((nth a1.2.2.1 r16.1.1 ([],[],false,[])).2).1,(((nth a1.2.2.1 r16.1.1 ([],[],false,[])).2).2)) r18
                            bif (inb r16.1.1 a1.2.2.1.length) then
                              some ((),(r17.2.1,(a1.1,a1.2.1,(a1.2.2.1.set (r16.1.1).toNat r19),a1.2.2.2),()))
                            else none
                          else none
                        else
                          some ((),(r15.2.1,a1,()))
                      else
                        some ((),(r1.2.1,a1,()))
                else
                  bif (r1.1.1==11) then
                    bif (leb 0 a1.2.2.2.1) then
                      bif (inb a1.2.2.2.1 a1.2.2.1.length) then
                        bif (!((((nth a1.2.2.1 a1.2.2.2.1 ([],[],false,[])).2).2).1)) then
                          bif (ltb a1.2.2.2.2.1 a1.2.1.2) then
                            bnd (yk a1) fun r20 =>
                            some ((),(r1.2.1,r20.2.1,()))
                          else
                            some ((),(r1.2.1,a1,()))
                        else
                          some ((),(r1.2.1,a1,()))
                      else none
                    else
                      some ((),(r1.2.1,a1,()))
                  else
                    bif (r1.1.1==12) then
                      let r21:=yj a1
                      some ((),(r1.2.1,r21,()))
                    else
                      bif (a1.2.2.2.1==(-1)) then
                        bnd (yc r1.2.1 3) fun r22 =>
                        bif r22.1.1 then
                          bnd (ya r22.2.1 a1.2.1.1) fun r23 =>
                          bif (inb r23.1.1 a1.2.2.1.length) then
                            bnd (ya r23.2.1 a1.2.1.2) fun r24 =>
                            let r25:=yh r24.1.1
                            let r26:=yi ((nth a1.2.2.1 r23.1.1 ([],[],false,[])).1,((nth a1.2.2.1 r23.1.1 ([],[],false,[])).2).1,(((nth a1.2.2.1 r23.1.1 ([],[],false,[])).2).2)) r25
                            bif (inb r23.1.1 a1.2.2.1.length) then
                              some ((),(r24.2.1,(a1.1,a1.2.1,(a1.2.2.1.set (r23.1.1).toNat r26),a1.2.2.2),()))
                            else none
                          else none
                        else
                          some ((),(r22.2.1,a1,()))
                      else
                        some ((),(r1.2.1,a1,()))
      else
        bif (r1.1.1==5) then
          bif (r1.1.1==5) then
            bnd (ya r1.2.1 a1.2.1.2) fun r27 =>
            bnd (yx a1 r27.1.1) fun r28 =>
            some ((),(r27.2.1,r28.2.1,()))
          else
            bif (r1.1.1==7) then
              bnd (yI a1) fun r29 =>
              some ((),(r1.2.1,r29.2.1,()))
            else
              bif (r1.1.1==8) then
                bnd (yc r1.2.1 3) fun r30 =>
                bif r30.1.1 then
                  bif (a1.2.2.2.1==(-1)) then
                    bnd (ya r30.2.1 a1.2.1.1) fun r31 =>
                    bnd (yA a1 r31.1.1) fun r32 =>
                    some ((),(r31.2.1,r32.2.1,()))
                  else
                    some ((),(r30.2.1,a1,()))
                else
                  some ((),(r30.2.1,a1,()))
              else
                bif (r1.1.1==9) then
                  bif (leb 0 a1.2.2.2.1) then
                    bif (inb a1.2.2.2.1 a1.2.2.1.length) then
                      bif (((nth a1.2.2.1 a1.2.2.2.1 ([],[],false,[])).2).2).1 then
                        bnd (yw a1) fun r33 =>
                        some ((),(r1.2.1,r33.2.1,()))
                      else
                        some ((),(r1.2.1,a1,()))
                    else none
                  else
                    some ((),(r1.2.1,a1,()))
                else
                  bif (r1.1.1==10) then
                    bif (r1.1.1==10) then
                      bif (leb 0 a1.2.2.2.1) then
                        bif (inb a1.2.2.2.1 a1.2.2.1.length) then
                          bif (!((((nth a1.2.2.1 a1.2.2.2.1 ([],[],false,[])).2).2).1)) then
                            bif (ltb a1.2.2.2.2.1 a1.2.1.2) then
                              bnd (yk a1) fun r34 =>
                              some ((),(r1.2.1,r34.2.1,()))
                            else
                              some ((),(r1.2.1,a1,()))
                          else
                            some ((),(r1.2.1,a1,()))
                        else none
                      else
                        some ((),(r1.2.1,a1,()))
                    else
                      bif (r1.1.1==12) then
                        let r35:=yj a1
                        some ((),(r1.2.1,r35,()))
                      else
                        bif (a1.2.2.2.1==(-1)) then
                          bnd (yc r1.2.1 3) fun r36 =>
                          bif r36.1.1 then
                            bnd (ya r36.2.1 a1.2.1.1) fun r37 =>
                            bif (inb r37.1.1 a1.2.2.1.length) then
                              bnd (ya r37.2.1 a1.2.1.2) fun r38 =>
                              let r39:=yh r38.1.1
                              let r40:=yi ((nth a1.2.2.1 r37.1.1 ([],[],false,[])).1,((nth a1.2.2.1 r37.1.1 ([],[],false,[])).2).1,(((nth a1.2.2.1 r37.1.1 ([],[],false,[])).2).2)) r39
                              bif (inb r37.1.1 a1.2.2.1.length) then
                                some ((),(r38.2.1,(a1.1,a1.2.1,(a1.2.2.1.set (r37.1.1).toNat r40),a1.2.2.2),()))
                              else none
                            else none
                          else
                            some ((),(r36.2.1,a1,()))
                        else
                          some ((),(r1.2.1,a1,()))
                  else
                    bif (r1.1.1==11) then
                      bif (leb 0 a1.2.2.2.1) then
                        bif (inb a1.2.2.2.1 a1.2.2.1.length) then
                          bif (!((((nth a1.2.2.1 a1.2.2.2.1 ([],[],false,[])).2).2).1)) then
                            bif (ltb a1.2.2.2.2.1 a1.2.1.2) then
                              bnd (yk a1) fun r41 =>
                              some ((),(r1.2.1,r41.2.1,()))
                            else
                              some ((),(r1.2.1,a1,()))
                          else
                            some ((),(r1.2.1,a1,()))
                        else none
                      else
                        some ((),(r1.2.1,a1,()))
                    else
                      bif (r1.1.1==12) then
                        let r42:=yj a1
                        some ((),(r1.2.1,r42,()))
                      else
                        bif (a1.2.2.2.1==(-1)) then
                          bnd (yc r1.2.1 3) fun r43 =>
                          bif r43.1.1 then
                            bnd (ya r43.2.1 a1.2.1.1) fun r44 =>
                            bif (inb r44.1.1 a1.2.2.1.length) then
                              bnd (ya r44.2.1 a1.2.1.2) fun r45 =>
                              let r46:=yh r45.1.1
                              let r47:=yi ((nth a1.2.2.1 r44.1.1 ([],[],false,[])).1,((nth a1.2.2.1 r44.1.1 ([],[],false,[])).2).1,(((nth a1.2.2.1 r44.1.1 ([],[],false,[])).2).2)) r46
                              bif (inb r44.1.1 a1.2.2.1.length) then
                                some ((),(r45.2.1,(a1.1,a1.2.1,(a1.2.2.1.set (r44.1.1).toNat r47),a1.2.2.2),()))
                              else none
                            else none
                          else
                            some ((),(r43.2.1,a1,()))
                        else
                          some ((),(r1.2.1,a1,()))
        else
          bif (r1.1.1==6) then
            bnd (ya r1.2.1 a1.2.1.2) fun r48 =>
            bnd (yx a1 r48.1.1) fun r49 =>
            some ((),(r48.2.1,r49.2.1,()))
          else
            bif (r1.1.1==7) then
              bnd (yI a1) fun r50 =>
              some ((),(r1.2.1,r50.2.1,()))
            else
              bif (r1.1.1==8) then
                bnd (yc r1.2.1 3) fun r51 =>
                bif r51.1.1 then
                  bif (a1.2.2.2.1==(-1)) then
                    bnd (ya r51.2.1 a1.2.1.1) fun r52 =>
                    bnd (yA a1 r52.1.1) fun r53 =>
                    some ((),(r52.2.1,r53.2.1,()))
                  else
                    some ((),(r51.2.1,a1,()))
                else
                  some ((),(r51.2.1,a1,()))
              else
                bif (r1.1.1==9) then
                  bif (leb 0 a1.2.2.2.1) then
                    bif (inb a1.2.2.2.1 a1.2.2.1.length) then
                      bif (((nth a1.2.2.1 a1.2.2.2.1 ([],[],false,[])).2).2).1 then
                        bnd (yw a1) fun r54 =>
                        some ((),(r1.2.1,r54.2.1,()))
                      else
                        some ((),(r1.2.1,a1,()))
                    else none
                  else
                    some ((),(r1.2.1,a1,()))
                else
                  bif (r1.1.1==10) then
                    bif (r1.1.1==10) then
                      bif (leb 0 a1.2.2.2.1) then
                        bif (inb a1.2.2.2.1 a1.2.2.1.length) then
                          bif (!((((nth a1.2.2.1 a1.2.2.2.1 ([],[],false,[])).2).2).1)) then
                            bif (ltb a1.2.2.2.2.1 a1.2.1.2) then
                              bnd (yk a1) fun r55 =>
                              some ((),(r1.2.1,r55.2.1,()))
                            else
                              some ((),(r1.2.1,a1,()))
                          else
                            some ((),(r1.2.1,a1,()))
                        else none
                      else
                        some ((),(r1.2.1,a1,()))
                    else
                      bif (r1.1.1==12) then
                        let r56:=yj a1
                        some ((),(r1.2.1,r56,()))
                      else
                        bif (a1.2.2.2.1==(-1)) then
                          bnd (yc r1.2.1 3) fun r57 =>
                          bif r57.1.1 then
                            bnd (ya r57.2.1 a1.2.1.1) fun r58 =>
                            bif (inb r58.1.1 a1.2.2.1.length) then
                              bnd (ya r58.2.1 a1.2.1.2) fun r59 =>
                              let r60:=yh r59.1.1
                              let r61:=yi ((nth a1.2.2.1 r58.1.1 ([],[],false,[])).1,((nth a1.2.2.1 r58.1.1 ([],[],false,[])).2).1,(((nth a1.2.2.1 r58.1.1 ([],[],false,[])).2).2)) r60
                              bif (inb r58.1.1 a1.2.2.1.length) then
                                some ((),(r59.2.1,(a1.1,a1.2.1,(a1.2.2.1.set (r58.1.1).toNat r61),a1.2.2.2),()))
                              else none
                            else none
                          else
                            some ((),(r57.2.1,a1,()))
                        else
                          some ((),(r1.2.1,a1,()))
                  else
                    bif (r1.1.1==11) then
                      bif (leb 0 a1.2.2.2.1) then
                        bif (inb a1.2.2.2.1 a1.2.2.1.length) then
                          bif (!((((nth a1.2.2.1 a1.2.2.2.1 ([],[],false,[])).2).2).1)) then
                            bif (ltb a1.2.2.2.2.1 a1.2.1.2) then
                              bnd (yk a1) fun r62 =>
                              some ((),(r1.2.1,r62.2.1,()))
                            else
                              some ((),(r1.2.1,a1,()))
                          else
                            some ((),(r1.2.1,a1,()))
                        else none
                      else
                        some ((),(r1.2.1,a1,()))
                    else
                      bif (r1.1.1==12) then
                        let r63:=yj a1
                        some ((),(r1.2.1,r63,()))
                      else
                        bif (a1.2.2.2.1==(-1)) then
                          bnd (yc r1.2.1 3) fun r64 =>
                          bif r64.1.1 then
                            bnd (ya r64.2.1 a1.2.1.1) fun r65 =>
                            bif (inb r65.1.1 a1.2.2.1.length) then
                              bnd (ya r65.2.1 a1.2.1.2) fun r66 =>
                              let r67:=yh r66.1.1
                              let r68:=yi ((nth a1.2.2.1 r65.1.1 ([],[],false,[])).1,((nth a1.2.2.1 r65.1.1 ([],[],false,[])).2).1,(((nth a1.2.2.1 r65.1.1 ([],[],false,[])).2).2)) r67
                              bif (inb r65.1.1 a1.2.2.1.length) then
                                some ((),(r66.2.1,(a1.1,a1.2.1,(a1.2.2.1.set (r65.1.1).toNat r68),a1.2.2.2),()))
                              else none
                            else none
                          else
                            some ((),(r64.2.1,a1,()))
                        else
                          some ((),(r1.2.1,a1,()))
  else
    bif (r1.1.1==1) then
      bif (r1.1.1==1) then
        let r69:=yr a1.2.1
        bnd (ya r1.2.1 r69) fun r70 =>
        bnd (yQ r70.2.1) fun r71 =>
        bnd (ydc a1 r70.1.1 r71.1.1) fun r72 =>
        some ((),(r71.2.1,r72.2.1,()))
      else
        bif (r1.1.1==4) then
          bif (r1.1.1==4) then
            bnd (ya r1.2.1 a1.2.1.2) fun r73 =>
            bnd (yx a1 r73.1.1) fun r74 =>
            some ((),(r73.2.1,r74.2.1,()))
          else
            bif (r1.1.1==7) then
              bnd (yI a1) fun r75 =>
              some ((),(r1.2.1,r75.2.1,()))
            else
              bif (r1.1.1==8) then
                bnd (yc r1.2.1 3) fun r76 =>
                bif r76.1.1 then
                  bif (a1.2.2.2.1==(-1)) then
                    bnd (ya r76.2.1 a1.2.1.1) fun r77 =>
                    bnd (yA a1 r77.1.1) fun r78 =>
                    some ((),(r77.2.1,r78.2.1,()))
                  else
                    some ((),(r76.2.1,a1,()))
                else
                  some ((),(r76.2.1,a1,()))
              else
                bif (r1.1.1==9) then
                  bif (leb 0 a1.2.2.2.1) then
                    bif (inb a1.2.2.2.1 a1.2.2.1.length) then
                      bif (((nth a1.2.2.1 a1.2.2.2.1 ([],[],false,[])).2).2).1 then
                        bnd (yw a1) fun r79 =>
                        some ((),(r1.2.1,r79.2.1,()))
                      else
                        some ((),(r1.2.1,a1,()))
                    else none
                  else
                    some ((),(r1.2.1,a1,()))
                else
                  bif (r1.1.1==10) then
                    bif (r1.1.1==10) then
                      bif (leb 0 a1.2.2.2.1) then
                        bif (inb a1.2.2.2.1 a1.2.2.1.length) then
                          bif (!((((nth a1.2.2.1 a1.2.2.2.1 ([],[],false,[])).2).2).1)) then
                            bif (ltb a1.2.2.2.2.1 a1.2.1.2) then
                              bnd (yk a1) fun r80 =>
                              some ((),(r1.2.1,r80.2.1,()))
                            else
                              some ((),(r1.2.1,a1,()))
                          else
                            some ((),(r1.2.1,a1,()))
                        else none
                      else
                        some ((),(r1.2.1,a1,()))
                    else
                      bif (r1.1.1==12) then
                        let r81:=yj a1
                        some ((),(r1.2.1,r81,()))
                      else
                        bif (a1.2.2.2.1==(-1)) then
                          bnd (yc r1.2.1 3) fun r82 =>
                          bif r82.1.1 then
                            bnd (ya r82.2.1 a1.2.1.1) fun r83 =>
                            bif (inb r83.1.1 a1.2.2.1.length) then
                              bnd (ya r83.2.1 a1.2.1.2) fun r84 =>
                              let r85:=yh r84.1.1
                              let r86:=yi ((nth a1.2.2.1 r83.1.1 ([],[],false,[])).1,((nth a1.2.2.1 r83.1.1 ([],[],false,[])).2).1,(((nth a1.2.2.1 r83.1.1 ([],[],false,[])).2).2)) r85
                              bif (inb r83.1.1 a1.2.2.1.length) then
                                some ((),(r84.2.1,(a1.1,a1.2.1,(a1.2.2.1.set (r83.1.1).toNat r86),a1.2.2.2),()))
                              else none
                            else none
                          else
                            some ((),(r82.2.1,a1,()))
                        else
                          some ((),(r1.2.1,a1,()))
                  else
                    bif (r1.1.1==11) then
                      bif (leb 0 a1.2.2.2.1) then
                        bif (inb a1.2.2.2.1 a1.2.2.1.length) then
                          bif (!((((nth a1.2.2.1 a1.2.2.2.1 ([],[],false,[])).2).2).1)) then
                            bif (ltb a1.2.2.2.2.1 a1.2.1.2) then
                              bnd (yk a1) fun r87 =>
                              some ((),(r1.2.1,r87.2.1,()))
                            else
                              some ((),(r1.2.1,a1,()))
                          else
                            some ((),(r1.2.1,a1,()))
                        else none
                      else
                        some ((),(r1.2.1,a1,()))
                    else
                      bif (r1.1.1==12) then
                        let r88:=yj a1
                        some ((),(r1.2.1,r88,()))
                      else
                        bif (a1.2.2.2.1==(-1)) then
                          bnd (yc r1.2.1 3) fun r89 =>
                          bif r89.1.1 then
                            bnd (ya r89.2.1 a1.2.1.1) fun r90 =>
                            bif (inb r90.1.1 a1.2.2.1.length) then
                              bnd (ya r90.2.1 a1.2.1.2) fun r91 =>
                              let r92:=yh r91.1.1
                              let r93:=yi ((nth a1.2.2.1 r90.1.1 ([],[],false,[])).1,((nth a1.2.2.1 r90.1.1 ([],[],false,[])).2).1,(((nth a1.2.2.1 r90.1.1 ([],[],false,[])).2).2)) r92
                              bif (inb r90.1.1 a1.2.2.1.length) then
                                some ((),(r91.2.1,(a1.1,a1.2.1,(a1.2.2.1.set (r90.1.1).toNat r93),a1.2.2.2),()))
                              else none
                            else none
                          else
                            some ((),(r89.2.1,a1,()))
                        else
                          some ((),(r1.2.1,a1,()))
        else
          bif (r1.1.1==5) then
            bif (r1.1.1==5) then
              bnd (ya r1.2.1 a1.2.1.2) fun r94 =>
              bnd (yx a1 r94.1.1) fun r95 =>
              some ((),(r94.2.1,r95.2.1,()))
            else
              bif (r1.1.1==7) then
                bnd (yI a1) fun r96 =>
                some ((),(r1.2.1,r96.2.1,()))
              else
                bif (r1.1.1==8) then
                  bnd (yc r1.2.1 3) fun r97 =>
                  bif r97.1.1 then
                    bif (a1.2.2.2.1==(-1)) then
                      bnd (ya r97.2.1 a1.2.1.1) fun r98 =>
                      bnd (yA a1 r98.1.1) fun r99 =>
                      some ((),(r98.2.1,r99.2.1,()))
                    else
                      some ((),(r97.2.1,a1,()))
                  else
                    some ((),(r97.2.1,a1,()))
                else
                  bif (r1.1.1==9) then
                    bif (leb 0 a1.2.2.2.1) then
                      bif (inb a1.2.2.2.1 a1.2.2.1.length) then
                        bif (((nth a1.2.2.1 a1.2.2.2.1 ([],[],false,[])).2).2).1 then
                          bnd (yw a1) fun r100 =>
                          some ((),(r1.2.1,r100.2.1,()))
                        else
                          some ((),(r1.2.1,a1,()))
                      else none
                    else
                      some ((),(r1.2.1,a1,()))
                  else
                    bif (r1.1.1==10) then
                      bif (r1.1.1==10) then
                        bif (leb 0 a1.2.2.2.1) then
                          bif (inb a1.2.2.2.1 a1.2.2.1.length) then
                            bif (!((((nth a1.2.2.1 a1.2.2.2.1 ([],[],false,[])).2).2).1)) then
                              bif (ltb a1.2.2.2.2.1 a1.2.1.2) then
                                bnd (yk a1) fun r101 =>
                                some ((),(r1.2.1,r101.2.1,()))
                              else
                                some ((),(r1.2.1,a1,()))
                            else
                              some ((),(r1.2.1,a1,()))
                          else none
                        else
                          some ((),(r1.2.1,a1,()))
                      else
                        bif (r1.1.1==12) then
                          let r102:=yj a1
                          some ((),(r1.2.1,r102,()))
                        else
                          bif (a1.2.2.2.1==(-1)) then
                            bnd (yc r1.2.1 3) fun r103 =>
                            bif r103.1.1 then
                              bnd (ya r103.2.1 a1.2.1.1) fun r104 =>
                              bif (inb r104.1.1 a1.2.2.1.length) then
                                bnd (ya r104.2.1 a1.2.1.2) fun r105 =>
                                let r106:=yh r105.1.1
                                let r107:=yi ((nth a1.2.2.1 r104.1.1 ([],[],false,[])).1,((nth a1.2.2.1 r104.1.1 ([],[],false,[])).2).1,(((nth a1.2.2.1 r104.1.1 ([],[],false,[])).2).2)) r106
                                bif (inb r104.1.1 a1.2.2.1.length) then
                                  some ((),(r105.2.1,(a1.1,a1.2.1,(a1.2.2.1.set (r104.1.1).toNat r107),a1.2.2.2),()))
                                else none
                              else none
                            else
                              some ((),(r103.2.1,a1,()))
                          else
                            some ((),(r1.2.1,a1,()))
                    else
                      bif (r1.1.1==11) then
                        bif (leb 0 a1.2.2.2.1) then
                          bif (inb a1.2.2.2.1 a1.2.2.1.length) then
                            bif (!((((nth a1.2.2.1 a1.2.2.2.1 ([],[],false,[])).2).2).1)) then
                              bif (ltb a1.2.2.2.2.1 a1.2.1.2) then
                                bnd (yk a1) fun r108 =>
                                some ((),(r1.2.1,r108.2.1,()))
                              else
                                some ((),(r1.2.1,a1,()))
                            else
                              some ((),(r1.2.1,a1,()))
                          else none
                        else
                          some ((),(r1.2.1,a1,()))
                      else
                        bif (r1.1.1==12) then
                          let r109:=yj a1
                          some ((),(r1.2.1,r109,()))
                        else
                          bif (a1.2.2.2.1==(-1)) then
                            bnd (yc r1.2.1 3) fun r110 =>
                            bif r110.1.1 then
                              bnd (ya r110.2.1 a1.2.1.1) fun r111 =>
                              bif (inb r111.1.1 a1.2.2.1.length) then
                                bnd (ya r111.2.1 a1.2.1.2) fun r112 =>
                                let r113:=yh r112.1.1
                                let r114:=yi ((nth a1.2.2.1 r111.1.1 ([],[],false,[])).1,((nth a1.2.2.1 r111.1.1 ([],[],false,[])).2).1,(((nth a1.2.2.1 r111.1.1 ([],[],false,[])).2).2)) r113
                                bif (inb r111.1.1 a1.2.2.1.length) then
                                  some ((),(r112.2.1,(a1.1,a1.2.1,(a1.2.2.1.set (r111.1.1).toNat r114),a1.2.2.2),()))
                                else none
                              else none
                            else
                              some ((),(r110.2.1,a1,()))
                          else
                            some ((),(r1.2.1,a1,()))
          else
            bif (r1.1.1==6) then
              bnd (ya r1.2.1 a1.2.1.2) fun r115 =>
              bnd (yx a1 r115.1.1) fun r116 =>
              some ((),(r115.2.1,r116.2.1,()))
            else
              bif (r1.1.1==7) then
                bnd (yI a1) fun r117 =>
                some ((),(r1.2.1,r117.2.1,()))
              else
                bif (r1.1.1==8) then
                  bnd (yc r1.2.1 3) fun r118 =>
                  bif r118.1.1 then
                    bif (a1.2.2.2.1==(-1)) then
                      bnd (ya r118.2.1 a1.2.1.1) fun r119 =>
                      bnd (yA a1 r119.1.1) fun r120 =>
                      some ((),(r119.2.1,r120.2.1,()))
                    else
                      some ((),(r118.2.1,a1,()))
                  else
                    some ((),(r118.2.1,a1,()))
                else
                  bif (r1.1.1==9) then
                    bif (leb 0 a1.2.2.2.1) then
                      bif (inb a1.2.2.2.1 a1.2.2.1.length) then
                        bif (((nth a1.2.2.1 a1.2.2.2.1 ([],[],false,[])).2).2).1 then
                          bnd (yw a1) fun r121 =>
                          some ((),(r1.2.1,r121.2.1,()))
                        else
                          some ((),(r1.2.1,a1,()))
                      else none
                    else
                      some ((),(r1.2.1,a1,()))
                  else
                    bif (r1.1.1==10) then
                      bif (r1.1.1==10) then
                        bif (leb 0 a1.2.2.2.1) then
                          bif (inb a1.2.2.2.1 a1.2.2.1.length) then
                            bif (!((((nth a1.2.2.1 a1.2.2.2.1 ([],[],false,[])).2).2).1)) then
                              bif (ltb a1.2.2.2.2.1 a1.2.1.2) then
                                bnd (yk a1) fun r122 =>
                                some ((),(r1.2.1,r122.2.1,()))
                              else
                                some ((),(r1.2.1,a1,()))
                            else
                              some ((),(r1.2.1,a1,()))
                          else none
                        else
                          some ((),(r1.2.1,a1,()))
                      else
                        bif (r1.1.1==12) then
                          let r123:=yj a1
                          some ((),(r1.2.1,r123,()))
                        else
                          bif (a1.2.2.2.1==(-1)) then
                            bnd (yc r1.2.1 3) fun r124 =>
                            bif r124.1.1 then
                              bnd (ya r124.2.1 a1.2.1.1) fun r125 =>
                              bif (inb r125.1.1 a1.2.2.1.length) then
                                bnd (ya r125.2.1 a1.2.1.2) fun r126 =>
                                let r127:=yh r126.1.1
                                let r128:=yi ((nth a1.2.2.1 r125.1.1 ([],[],false,[])).1,((nth a1.2.2.1 r125.1.1 ([],[],false,[])).2).1,(((nth a1.2.2.1 r125.1.1 ([],[],false,[])).2).2)) r127
                                bif (inb r125.1.1 a1.2.2.1.length) then
                                  some ((),(r126.2.1,(a1.1,a1.2.1,(a1.2.2.1.set (r125.1.1).toNat r128),a1.2.2.2),()))
                                else none
                              else none
                            else
                              some ((),(r124.2.1,a1,()))
                          else
                            some ((),(r1.2.1,a1,()))
                    else
                      bif (r1.1.1==11) then
                        bif (leb 0 a1.2.2.2.1) then
                          bif (inb a1.2.2.2.1 a1.2.2.1.length) then
                            bif (!((((nth a1.2.2.1 a1.2.2.2.1 ([],[],false,[])).2).2).1)) then
                              bif (ltb a1.2.2.2.2.1 a1.2.1.2) then
                                bnd (yk a1) fun r129 =>
                                some ((),(r1.2.1,r129.2.1,()))
                              else
                                some ((),(r1.2.1,a1,()))
                            else
                              some ((),(r1.2.1,a1,()))
                          else none
                        else
                          some ((),(r1.2.1,a1,()))
                      else
                        bif (r1.1.1==12) then
                          let r130:=yj a1
                          some ((),(r1.2.1,r130,()))
                        else
                          bif (a1.2.2.2.1==(-1)) then
                            bnd (yc r1.2.1 3) fun r131 =>
                            bif r131.1.1 then
                              bnd (ya r131.2.1 a1.2.1.1) fun r132 =>
                              bif (inb r132.1.1 a1.2.2.1.length) then
                                bnd (ya r132.2.1 a1.2.1.2) fun r133 =>
                                let r134:=yh r133.1.1
                                let r135:=yi ((nth a1.2.2.1 r132.1.1 ([],[],false,[])).1,((nth a1.2.2.1 r132.1.1 ([],[],false,[])).2).1,(((nth a1.2.2.1 r132.1.1 ([],[],false,[])).2).2)) r134
                                bif (inb r132.1.1 a1.2.2.1.length) then
                                  some ((),(r133.2.1,(a1.1,a1.2.1,(a1.2.2.1.set (r132.1.1).toNat r135),a1.2.2.2),()))
                                else none
                              else none
                            else
                              some ((),(r131.2.1,a1,()))
                          else
                            some ((),(r1.2.1,a1,()))
    else
      bif (r1.1.1==2) then
        bif (r1.1.1==2) then
          let r136:=yr a1.2.1
          bnd (ya r1.2.1 r136) fun r137 =>
          bnd (yQ r137.2.1) fun r138 =>
          bnd (ydc a1 r137.1.1 r138.1.1) fun r139 =>
          some ((),(r138.2.1,r139.2.1,()))
        else
          bif (r1.1.1==4) then
            bif (r1.1.1==4) then
              bnd (ya r1.2.1 a1.2.1.2) fun r140 =>
              bnd (yx a1 r140.1.1) fun r141 =>
              some ((),(r140.2.1,r141.2.1,()))
            else
              bif (r1.1.1==7) then
                bnd (yI a1) fun r142 =>
                some ((),(r1.2.1,r142.2.1,()))
              else
                bif (r1.1.1==8) then
                  bnd (yc r1.2.1 3) fun r143 =>
                  bif r143.1.1 then
                    bif (a1.2.2.2.1==(-1)) then
                      bnd (ya r143.2.1 a1.2.1.1) fun r144 =>
                      bnd (yA a1 r144.1.1) fun r145 =>
                      some ((),(r144.2.1,r145.2.1,()))
                    else
                      some ((),(r143.2.1,a1,()))
                  else
                    some ((),(r143.2.1,a1,()))
                else
                  bif (r1.1.1==9) then
                    bif (leb 0 a1.2.2.2.1) then
                      bif (inb a1.2.2.2.1 a1.2.2.1.length) then
                        bif (((nth a1.2.2.1 a1.2.2.2.1 ([],[],false,[])).2).2).1 then
                          bnd (yw a1) fun r146 =>
                          some ((),(r1.2.1,r146.2.1,()))
                        else
                          some ((),(r1.2.1,a1,()))
                      else none
                    else
                      some ((),(r1.2.1,a1,()))
                  else
                    bif (r1.1.1==10) then
                      bif (r1.1.1==10) then
                        bif (leb 0 a1.2.2.2.1) then
                          bif (inb a1.2.2.2.1 a1.2.2.1.length) then
                            bif (!((((nth a1.2.2.1 a1.2.2.2.1 ([],[],false,[])).2).2).1)) then
                              bif (ltb a1.2.2.2.2.1 a1.2.1.2) then
                                bnd (yk a1) fun r147 =>
                                some ((),(r1.2.1,r147.2.1,()))
                              else
                                some ((),(r1.2.1,a1,()))
                            else
                              some ((),(r1.2.1,a1,()))
                          else none
                        else
                          some ((),(r1.2.1,a1,()))
                      else
                        bif (r1.1.1==12) then
                          let r148:=yj a1
                          some ((),(r1.2.1,r148,()))
                        else
                          bif (a1.2.2.2.1==(-1)) then
                            bnd (yc r1.2.1 3) fun r149 =>
                            bif r149.1.1 then
                              bnd (ya r149.2.1 a1.2.1.1) fun r150 =>
                              bif (inb r150.1.1 a1.2.2.1.length) then
                                bnd (ya r150.2.1 a1.2.1.2) fun r151 =>
                                let r152:=yh r151.1.1
                                let r153:=yi ((nth a1.2.2.1 r150.1.1 ([],[],false,[])).1,((nth a1.2.2.1 r150.1.1 ([],[],false,[])).2).1,(((nth a1.2.2.1 r150.1.1 ([],[],false,[])).2).2)) r152
                                bif (inb r150.1.1 a1.2.2.1.length) then
                                  some ((),(r151.2.1,(a1.1,a1.2.1,(a1.2.2.1.set (r150.1.1).toNat r153),a1.2.2.2),()))
                                else none
                              else none
                            else
                              some ((),(r149.2.1,a1,()))
                          else
                            some ((),(r1.2.1,a1,()))
                    else
                      bif (r1.1.1==11) then
                        bif (leb 0 a1.2.2.2.1) then
                          bif (inb a1.2.2.2.1 a1.2.2.1.length) then
                            bif (!((((nth a1.2.2.1 a1.2.2.2.1 ([],[],false,[])).2).2).1)) then
                              bif (ltb a1.2.2.2.2.1 a1.2.1.2) then
                                bnd (yk a1) fun r154 =>
                                some ((),(r1.2.1,r154.2.1,()))
                              else
                                some ((),(r1.2.1,a1,()))
                            else
                              some ((),(r1.2.1,a1,()))
                          else none
                        else
                          some ((),(r1.2.1,a1,()))
                      else
                        bif (r1.1.1==12) then
                          let r155:=yj a1
                          some ((),(r1.2.1,r155,()))
                        else
                          bif (a1.2.2.2.1==(-1)) then
                            bnd (yc r1.2.1 3) fun r156 =>
                            bif r156.1.1 then
                              bnd (ya r156.2.1 a1.2.1.1) fun r157 =>
                              bif (inb r157.1.1 a1.2.2.1.length) then
                                bnd (ya r157.2.1 a1.2.1.2) fun r158 =>
                                let r159:=yh r158.1.1
                                let r160:=yi ((nth a1.2.2.1 r157.1.1 ([],[],false,[])).1,((nth a1.2.2.1 r157.1.1 ([],[],false,[])).2).1,(((nth a1.2.2.1 r157.1.1 ([],[],false,[])).2).2)) r159
                                bif (inb r157.1.1 a1.2.2.1.length) then
                                  some ((),(r158.2.1,(a1.1,a1.2.1,(a1.2.2.1.set (r157.1.1).toNat r160),a1.2.2.2),()))
                                else none
                              else none
                            else
                              some ((),(r156.2.1,a1,()))
                          else
                            some ((),(r1.2.1,a1,()))
          else
            bif (r1.1.1==5) then
              bif (r1.1.1==5) then
                bnd (ya r1.2.1 a1.2.1.2) fun r161 =>
                bnd (yx a1 r161.1.1) fun r162 =>
                some ((),(r161.2.1,r162.2.1,()))
              else
                bif (r1.1.1==7) then
                  bnd (yI a1) fun r163 =>
                  some ((),(r1.2.1,r163.2.1,()))
                else
                  bif (r1.1.1==8) then
                    bnd (yc r1.2.1 3) fun r164 =>
                    bif r164.1.1 then
                      bif (a1.2.2.2.1==(-1)) then
                        bnd (ya r164.2.1 a1.2.1.1) fun r165 =>
                        bnd (yA a1 r165.1.1) fun r166 =>
                        some ((),(r165.2.1,r166.2.1,()))
                      else
                        some ((),(r164.2.1,a1,()))
                    else
                      some ((),(r164.2.1,a1,()))
                  else
                    bif (r1.1.1==9) then
                      bif (leb 0 a1.2.2.2.1) then
                        bif (inb a1.2.2.2.1 a1.2.2.1.length) then
                          bif (((nth a1.2.2.1 a1.2.2.2.1 ([],[],false,[])).2).2).1 then
                            bnd (yw a1) fun r167 =>
                            some ((),(r1.2.1,r167.2.1,()))
                          else
                            some ((),(r1.2.1,a1,()))
                        else none
                      else
                        some ((),(r1.2.1,a1,()))
                    else
                      bif (r1.1.1==10) then
                        bif (r1.1.1==10) then
                          bif (leb 0 a1.2.2.2.1) then
                            bif (inb a1.2.2.2.1 a1.2.2.1.length) then
                              bif (!((((nth a1.2.2.1 a1.2.2.2.1 ([],[],false,[])).2).2).1)) then
                                bif (ltb a1.2.2.2.2.1 a1.2.1.2) then
                                  bnd (yk a1) fun r168 =>
                                  some ((),(r1.2.1,r168.2.1,()))
                                else
                                  some ((),(r1.2.1,a1,()))
                              else
                                some ((),(r1.2.1,a1,()))
                            else none
                          else
                            some ((),(r1.2.1,a1,()))
                        else
                          bif (r1.1.1==12) then
                            let r169:=yj a1
                            some ((),(r1.2.1,r169,()))
                          else
                            bif (a1.2.2.2.1==(-1)) then
                              bnd (yc r1.2.1 3) fun r170 =>
                              bif r170.1.1 then
                                bnd (ya r170.2.1 a1.2.1.1) fun r171 =>
                                bif (inb r171.1.1 a1.2.2.1.length) then
                                  bnd (ya r171.2.1 a1.2.1.2) fun r172 =>
                                  let r173:=yh r172.1.1
                                  let r174:=yi ((nth a1.2.2.1 r171.1.1 ([],[],false,[])).1,((nth a1.2.2.1 r171.1.1 ([],[],false,[])).2).1,(((nth a1.2.2.1 r171.1.1 ([],[],false,[])).2).2)) r173
                                  bif (inb r171.1.1 a1.2.2.1.length) then
                                    some ((),(r172.2.1,(a1.1,a1.2.1,(a1.2.2.1.set (r171.1.1).toNat r174),a1.2.2.2),()))
                                  else none
                                else none
                              else
                                some ((),(r170.2.1,a1,()))
                            else
                              some ((),(r1.2.1,a1,()))
                      else
                        bif (r1.1.1==11) then
                          bif (leb 0 a1.2.2.2.1) then
                            bif (inb a1.2.2.2.1 a1.2.2.1.length) then
                              bif (!((((nth a1.2.2.1 a1.2.2.2.1 ([],[],false,[])).2).2).1)) then
                                bif (ltb a1.2.2.2.2.1 a1.2.1.2) then
                                  bnd (yk a1) fun r175 =>
                                  some ((),(r1.2.1,r175.2.1,()))
                                else
                                  some ((),(r1.2.1,a1,()))
                              else
                                some ((),(r1.2.1,a1,()))
                            else none
                          else
                            some ((),(r1.2.1,a1,()))
                        else
                          bif (r1.1.1==12) then
                            let r176:=yj a1
                            some ((),(r1.2.1,r176,()))
                          else
                            bif (a1.2.2.2.1==(-1)) then
                              bnd (yc r1.2.1 3) fun r177 =>
                              bif r177.1.1 then
                                bnd (ya r177.2.1 a1.2.1.1) fun r178 =>
                                bif (inb r178.1.1 a1.2.2.1.length) then
                                  bnd (ya r178.2.1 a1.2.1.2) fun r179 =>
                                  let r180:=yh r179.1.1
                                  let r181:=yi ((nth a1.2.2.1 r178.1.1 ([],[],false,[])).1,((nth a1.2.2.1 r178.1.1 ([],[],false,[])).2).1,(((nth a1.2.2.1 r178.1.1 ([],[],false,[])).2).2)) r180
                                  bif (inb r178.1.1 a1.2.2.1.length) then
                                    some ((),(r179.2.1,(a1.1,a1.2.1,(a1.2.2.1.set (r178.1.1).toNat r181),a1.2.2.2),()))
                                  else none
                                else none
                              else
                                some ((),(r177.2.1,a1,()))
                            else
                              some ((),(r1.2.1,a1,()))
            else
              bif (r1.1.1==6) then
                bnd (ya r1.2.1 a1.2.1.2) fun r182 =>
                bnd (yx a1 r182.1.1) fun r183 =>
                some ((),(r182.2.1,r183.2.1,()))
              else
                bif (r1.1.1==7) then
                  bnd (yI a1) fun r184 =>
                  some ((),(r1.2.1,r184.2.1,()))
                else
                  bif (r1.1.1==8) then
                    bnd (yc r1.2.1 3) fun r185 =>
                    bif r185.1.1 then
                      bif (a1.2.2.2.1==(-1)) then
                        bnd (ya r185.2.1 a1.2.1.1) fun r186 =>
                        bnd (yA a1 r186.1.1) fun r187 =>
                        some ((),(r186.2.1,r187.2.1,()))
                      else
                        some ((),(r185.2.1,a1,()))
                    else
                      some ((),(r185.2.1,a1,()))
                  else
                    bif (r1.1.1==9) then
                      bif (leb 0 a1.2.2.2.1) then
                        bif (inb a1.2.2.2.1 a1.2.2.1.length) then
                          bif (((nth a1.2.2.1 a1.2.2.2.1 ([],[],false,[])).2).2).1 then
                            bnd (yw a1) fun r188 =>
                            some ((),(r1.2.1,r188.2.1,()))
                          else
                            some ((),(r1.2.1,a1,()))
                        else none
                      else
                        some ((),(r1.2.1,a1,()))
                    else
                      bif (r1.1.1==10) then
                        bif (r1.1.1==10) then
                          bif (leb 0 a1.2.2.2.1) then
                            bif (inb a1.2.2.2.1 a1.2.2.1.length) then
                              bif (!((((nth a1.2.2.1 a1.2.2.2.1 ([],[],false,[])).2).2).1)) then
                                bif (ltb a1.2.2.2.2.1 a1.2.1.2) then
                                  bnd (yk a1) fun r189 =>
                                  some ((),(r1.2.1,r189.2.1,()))
                                else
                                  some ((),(r1.2.1,a1,()))
                              else
                                some ((),(r1.2.1,a1,()))
                            else none
                          else
                            some ((),(r1.2.1,a1,()))
                        else
                          bif (r1.1.1==12) then
                            let r190:=yj a1
                            some ((),(r1.2.1,r190,()))
                          else
                            bif (a1.2.2.2.1==(-1)) then
                              bnd (yc r1.2.1 3) fun r191 =>
                              bif r191.1.1 then
                                bnd (ya r191.2.1 a1.2.1.1) fun r192 =>
                                bif (inb r192.1.1 a1.2.2.1.length) then
                                  bnd (ya r192.2.1 a1.2.1.2) fun r193 =>
                                  let r194:=yh r193.1.1
                                  let r195:=yi ((nth a1.2.2.1 r192.1.1 ([],[],false,[])).1,((nth a1.2.2.1 r192.1.1 ([],[],false,[])).2).1,(((nth a1.2.2.1 r192.1.1 ([],[],false,[])).2).2)) r194
                                  bif (inb r192.1.1 a1.2.2.1.length) then
                                    some ((),(r193.2.1,(a1.1,a1.2.1,(a1.2.2.1.set (r192.1.1).toNat r195),a1.2.2.2),()))
                                  else none
                                else none
                              else
                                some ((),(r191.2.1,a1,()))
                            else
                              some ((),(r1.2.1,a1,()))
                      else
                        bif (r1.1.1==11) then
                          bif (leb 0 a1.2.2.2.1) then
                            bif (inb a1.2.2.2.1 a1.2.2.1.length) then
                              bif (!((((nth a1.2.2.1 a1.2.2.2.1 ([],[],false,[])).2).2).1)) then
                                bif (ltb a1.2.2.2.2.1 a1.2.1.2) then
                                  bnd (yk a1) fun r196 =>
                                  some ((),(r1.2.1,r196.2.1,()))
                                else
                                  some ((),(r1.2.1,a1,()))
                              else
                                some ((),(r1.2.1,a1,()))
                            else none
                          else
                            some ((),(r1.2.1,a1,()))
                        else
                          bif (r1.1.1==12) then
                            let r197:=yj a1
                            some ((),(r1.2.1,r197,()))
                          else
                            bif (a1.2.2.2.1==(-1)) then
                              bnd (yc r1.2.1 3) fun r198 =>
                              bif r198.1.1 then
                                bnd (ya r198.2.1 a1.2.1.1) fun r199 =>
                                bif (inb r199.1.1 a1.2.2.1.length) then
                                  bnd (ya r199.2.1 a1.2.1.2) fun r200 =>
                                  let r201:=yh r200.1.1
                                  let r202:=yi ((nth a1.2.2.1 r199.1.1 ([],[],false,[])).1,((nth a1.2.2.1 r199.1.1 ([],[],false,[])).2).1,(((nth a1.2.2.1 r199.1.1 ([],[],false,[])).2).2)) r201
                                  bif (inb r199.1.1 a1.2.2.1.length) then
                                    some ((),(r200.2.1,(a1.1,a1.2.1,(a1.2.2.1.set (r199.1.1).toNat r202),a1.2.2.2),()))
                                  else none
                                else none
                              else
                                some ((),(r198.2.1,a1,()))
                            else
                              some ((),(r1.2.1,a1,()))
      else
        bif (r1.1.1==3) then
          let r203:=yr a1.2.1
          bnd (ya r1.2.1 r203) fun r204 =>
          bnd (yQ r204.2.1) fun r205 =>
          bnd (ydc a1 r204.1.1 r205.1.1) fun r206 =>
          some ((),(r205.2.1,r206.2.1,()))
        else
          bif (r1.1.1==4) then
            bif (r1.1.1==4) then
              bnd (ya r1.2.1 a1.2.1.2) fun r207 =>
              bnd (yx a1 r207.1.1) fun r208 =>
              some ((),(r207.2.1,r208.2.1,()))
            else
              bif (r1.1.1==7) then
                bnd (yI a1) fun r209 =>
                some ((),(r1.2.1,r209.2.1,()))
              else
                bif (r1.1.1==8) then
                  bnd (yc r1.2.1 3) fun r210 =>
                  bif r210.1.1 then
                    bif (a1.2.2.2.1==(-1)) then
                      bnd (ya r210.2.1 a1.2.1.1) fun r211 =>
                      bnd (yA a1 r211.1.1) fun r212 =>
                      some ((),(r211.2.1,r212.2.1,()))
                    else
                      some ((),(r210.2.1,a1,()))
                  else
                    some ((),(r210.2.1,a1,()))
                else
                  bif (r1.1.1==9) then
                    bif (leb 0 a1.2.2.2.1) then
                      bif (inb a1.2.2.2.1 a1.2.2.1.length) then
                        bif (((nth a1.2.2.1 a1.2.2.2.1 ([],[],false,[])).2).2).1 then
                          bnd (yw a1) fun r213 =>
                          some ((),(r1.2.1,r213.2.1,()))
                        else
                          some ((),(r1.2.1,a1,()))
                      else none
                    else
                      some ((),(r1.2.1,a1,()))
                  else
                    bif (r1.1.1==10) then
                      bif (r1.1.1==10) then
                        bif (leb 0 a1.2.2.2.1) then
                          bif (inb a1.2.2.2.1 a1.2.2.1.length) then
                            bif (!((((nth a1.2.2.1 a1.2.2.2.1 ([],[],false,[])).2).2).1)) then
                              bif (ltb a1.2.2.2.2.1 a1.2.1.2) then
                                bnd (yk a1) fun r214 =>
                                some ((),(r1.2.1,r214.2.1,()))
                              else
                                some ((),(r1.2.1,a1,()))
                            else
                              some ((),(r1.2.1,a1,()))
                          else none
                        else
                          some ((),(r1.2.1,a1,()))
                      else
                        bif (r1.1.1==12) then
                          let r215:=yj a1
                          some ((),(r1.2.1,r215,()))
                        else
                          bif (a1.2.2.2.1==(-1)) then
                            bnd (yc r1.2.1 3) fun r216 =>
                            bif r216.1.1 then
                              bnd (ya r216.2.1 a1.2.1.1) fun r217 =>
                              bif (inb r217.1.1 a1.2.2.1.length) then
                                bnd (ya r217.2.1 a1.2.1.2) fun r218 =>
                                let r219:=yh r218.1.1
                                let r220:=yi ((nth a1.2.2.1 r217.1.1 ([],[],false,[])).1,((nth a1.2.2.1 r217.1.1 ([],[],false,[])).2).1,(((nth a1.2.2.1 r217.1.1 ([],[],false,[])).2).2)) r219
                                bif (inb r217.1.1 a1.2.2.1.length) then
                                  some ((),(r218.2.1,(a1.1,a1.2.1,(a1.2.2.1.set (r217.1.1).toNat r220),a1.2.2.2),()))
                                else none
                              else none
                            else
                              some ((),(r216.2.1,a1,()))
                          else
                            some ((),(r1.2.1,a1,()))
                    else
                      bif (r1.1.1==11) then
                        bif (leb 0 a1.2.2.2.1) then
                          bif (inb a1.2.2.2.1 a1.2.2.1.length) then
                            bif (!((((nth a1.2.2.1 a1.2.2.2.1 ([],[],false,[])).2).2).1)) then
                              bif (ltb a1.2.2.2.2.1 a1.2.1.2) then
                                bnd (yk a1) fun r221 =>
                                some ((),(r1.2.1,r221.2.1,()))
                              else
                                some ((),(r1.2.1,a1,()))
                            else
                              some ((),(r1.2.1,a1,()))
                          else none
                        else
                          some ((),(r1.2.1,a1,()))
                      else
                        bif (r1.1.1==12) then
                          let r222:=yj a1
                          some ((),(r1.2.1,r222,()))
                        else
                          bif (a1.2.2.2.1==(-1)) then
                            bnd (yc r1.2.1 3) fun r223 =>
                            bif r223.1.1 then
                              bnd (ya r223.2.1 a1.2.1.1) fun r224 =>
                              bif (inb r224.1.1 a1.2.2.1.length) then
                                bnd (ya r224.2.1 a1.2.1.2) fun r225 =>
                                let r226:=yh r225.1.1
                                let r227:=yi ((nth a1.2.2.1 r224.1.1 ([],[],false,[])).1,((nth a1.2.2.1 r224.1.1 ([],[],false,[])).2).1,(((nth a1.2.2.1 r224.1.1 ([],[],false,[])).2).2)) r226
                                bif (inb r224.1.1 a1.2.2.1.length) then
                                  some ((),(r225.2.1,(a1.1,a1.2.1,(a1.2.2.1.set (r224.1.1).toNat r227),a1.2.2.2),()))
                                else none
                              else none
                            else
                              some ((),(r223.2.1,a1,()))
                          else
                            some ((),(r1.2.1,a1,()))
          else
            bif (r1.1.1==5) then
              bif (r1.1.1==5) then
                bnd (ya r1.2.1 a1.2.1.2) fun r228 =>
                bnd (yx a1 r228.1.1) fun r229 =>
                some ((),(r228.2.1,r229.2.1,()))
              else
                bif (r1.1.1==7) then
                  bnd (yI a1) fun r230 =>
                  some ((),(r1.2.1,r230.2.1,()))
                else
                  bif (r1.1.1==8) then
                    bnd (yc r1.2.1 3) fun r231 =>
                    bif r231.1.1 then
                      bif (a1.2.2.2.1==(-1)) then
                        bnd (ya r231.2.1 a1.2.1.1) fun r232 =>
                        bnd (yA a1 r232.1.1) fun r233 =>
                        some ((),(r232.2.1,r233.2.1,()))
                      else
                        some ((),(r231.2.1,a1,()))
                    else
                      some ((),(r231.2.1,a1,()))
                  else
                    bif (r1.1.1==9) then
                      bif (leb 0 a1.2.2.2.1) then
                        bif (inb a1.2.2.2.1 a1.2.2.1.length) then
                          bif (((nth a1.2.2.1 a1.2.2.2.1 ([],[],false,[])).2).2).1 then
                            bnd (yw a1) fun r234 =>
                            some ((),(r1.2.1,r234.2.1,()))
                          else
                            some ((),(r1.2.1,a1,()))
                        else none
                      else
                        some ((),(r1.2.1,a1,()))
                    else
                      bif (r1.1.1==10) then
                        bif (r1.1.1==10) then
                          bif (leb 0 a1.2.2.2.1) then
                            bif (inb a1.2.2.2.1 a1.2.2.1.length) then
                              bif (!((((nth a1.2.2.1 a1.2.2.2.1 ([],[],false,[])).2).2).1)) then
                                bif (ltb a1.2.2.2.2.1 a1.2.1.2) then
                                  bnd (yk a1) fun r235 =>
                                  some ((),(r1.2.1,r235.2.1,()))
                                else
                                  some ((),(r1.2.1,a1,()))
                              else
                                some ((),(r1.2.1,a1,()))
                            else none
                          else
                            some ((),(r1.2.1,a1,()))
                        else
                          bif (r1.1.1==12) then
                            let r236:=yj a1
                            some ((),(r1.2.1,r236,()))
                          else
                            bif (a1.2.2.2.1==(-1)) then
                              bnd (yc r1.2.1 3) fun r237 =>
                              bif r237.1.1 then
                                bnd (ya r237.2.1 a1.2.1.1) fun r238 =>
                                bif (inb r238.1.1 a1.2.2.1.length) then
                                  bnd (ya r238.2.1 a1.2.1.2) fun r239 =>
                                  let r240:=yh r239.1.1
                                  let r241:=yi ((nth a1.2.2.1 r238.1.1 ([],[],false,[])).1,((nth a1.2.2.1 r238.1.1 ([],[],false,[])).2).1,(((nth a1.2.2.1 r238.1.1 ([],[],false,[])).2).2)) r240
                                  bif (inb r238.1.1 a1.2.2.1.length) then
                                    some ((),(r239.2.1,(a1.1,a1.2.1,(a1.2.2.1.set (r238.1.1).toNat r241),a1.2.2.2),()))
                                  else none
                                else none
                              else
                                some ((),(r237.2.1,a1,()))
                            else
                              some ((),(r1.2.1,a1,()))
                      else
                        bif (r1.1.1==11) then
                          bif (leb 0 a1.2.2.2.1) then
                            bif (inb a1.2.2.2.1 a1.2.2.1.length) then
                              bif (!((((nth a1.2.2.1 a1.2.2.2.1 ([],[],false,[])).2).2).1)) then
                                bif (ltb a1.2.2.2.2.1 a1.2.1.2) then
                                  bnd (yk a1) fun r242 =>
                                  some ((),(r1.2.1,r242.2.1,()))
                                else
                                  some ((),(r1.2.1,a1,()))
                              else
                                some ((),(r1.2.1,a1,()))
                            else none
                          else
                            some ((),(r1.2.1,a1,()))
                        else
                          bif (r1.1.1==12) then
                            let r243:=yj a1
                            some ((),(r1.2.1,r243,()))
                          else
                            bif (a1.2.2.2.1==(-1)) then
                              bnd (yc r1.2.1 3) fun r244 =>
                              bif r244.1.1 then
                                bnd (ya r244.2.1 a1.2.1.1) fun r245 =>
                                bif (inb r245.1.1 a1.2.2.1.length) then
                                  bnd (ya r245.2.1 a1.2.1.2) fun r246 =>
                                  let r247:=yh r246.1.1
                                  let r248:=yi ((nth a1.2.2.1 r245.1.1 ([],[],false,[])).1,((nth a1.2.2.1 r245.1.1 ([],[],false,[])).2).1,(((nth a1.2.2.1 r245.1.1 ([],[],false,[])).2).2)) r247
                                  bif (inb r245.1.1 a1.2.2.1.length) then
                                    some ((),(r246.2.1,(a1.1,a1.2.1,(a1.2.2.1.set (r245.1.1).toNat r248),a1.2.2.2),()))
                                  else none
                                else none
                              else
                                some ((),(r244.2.1,a1,()))
                            else
                              some ((),(r1.2.1,a1,()))
            else
              bif (r1.1.1==6) then
                bnd (ya r1.2.1 a1.2.1.2) fun r249 =>
                bnd (yx a1 r249.1.1) fun r250 =>
                some ((),(r249.2.1,r250.2.1,()))
              else
                bif (r1.1.1==7) then
                  bnd (yI a1) fun r251 =>
                  some ((),(r1.2.1,r251.2.1,()))
                else
                  bif (r1.1.1==8) then
                    bnd (yc r1.2.1 3) fun r252 =>
                    bif r252.1.1 then
                      bif (a1.2.2.2.1==(-1)) then
                        bnd (ya r252.2.1 a1.2.1.1) fun r253 =>
                        bnd (yA a1 r253.1.1) fun r254 =>
                        some ((),(r253.2.1,r254.2.1,()))
                      else
                        some ((),(r252.2.1,a1,()))
                    else
                      some ((),(r252.2.1,a1,()))
                  else
                    bif (r1.1.1==9) then
                      bif (leb 0 a1.2.2.2.1) then
                        bif (inb a1.2.2.2.1 a1.2.2.1.length) then
                          bif (((nth a1.2.2.1 a1.2.2.2.1 ([],[],false,[])).2).2).1 then
                            bnd (yw a1) fun r255 =>
                            some ((),(r1.2.1,r255.2.1,()))
                          else
                            some ((),(r1.2.1,a1,()))
                        else none
                      else
                        some ((),(r1.2.1,a1,()))
                    else
                      bif (r1.1.1==10) then
                        bif (r1.1.1==10) then
                          bif (leb 0 a1.2.2.2.1) then
                            bif (inb a1.2.2.2.1 a1.2.2.1.length) then
                              bif (!((((nth a1.2.2.1 a1.2.2.2.1 ([],[],false,[])).2).2).1)) then
                                bif (ltb a1.2.2.2.2.1 a1.2.1.2) then
                                  bnd (yk a1) fun r256 =>
                                  some ((),(r1.2.1,r256.2.1,()))
                                else
                                  some ((),(r1.2.1,a1,()))
                              else
                                some ((),(r1.2.1,a1,()))
                            else none
                          else
                            some ((),(r1.2.1,a1,()))
                        else
                          bif (r1.1.1==12) then
                            let r257:=yj a1
                            some ((),(r1.2.1,r257,()))
                          else
                            bif (a1.2.2.2.1==(-1)) then
                              bnd (yc r1.2.1 3) fun r258 =>
                              bif r258.1.1 then
                                bnd (ya r258.2.1 a1.2.1.1) fun r259 =>
                                bif (inb r259.1.1 a1.2.2.1.length) then
                                  bnd (ya r259.2.1 a1.2.1.2) fun r260 =>
                                  let r261:=yh r260.1.1
                                  let r262:=yi ((nth a1.2.2.1 r259.1.1 ([],[],false,[])).1,((nth a1.2.2.1 r259.1.1 ([],[],false,[])).2).1,(((nth a1.2.2.1 r259.1.1 ([],[],false,[])).2).2)) r261
                                  bif (inb r259.1.1 a1.2.2.1.length) then
                                    some ((),(r260.2.1,(a1.1,a1.2.1,(a1.2.2.1.set (r259.1.1).toNat r262),a1.2.2.2),()))
                                  else none
                                else none
                              else
                                some ((),(r258.2.1,a1,()))
                            else
                              some ((),(r1.2.1,a1,()))
                      else
                        bif (r1.1.1==11) then
                          bif (leb 0 a1.2.2.2.1) then
                            bif (inb a1.2.2.2.1 a1.2.2.1.length) then
                              bif (!((((nth a1.2.2.1 a1.2.2.2.1 ([],[],false,[])).2).2).1)) then
                                bif (ltb a1.2.2.2.2.1 a1.2.1.2) then
                                  bnd (yk a1) fun r263 =>
                                  some ((),(r1.2.1,r263.2.1,()))
                                else
                                  some ((),(r1.2.1,a1,()))
                              else
                                some ((),(r1.2.1,a1,()))
                            else none
                          else
                            some ((),(r1.2.1,a1,()))
                        else
                          bif (r1.1.1==12) then
                            let r264:=yj a1
                            some ((),(r1.2.1,r264,()))
                          else
                            bif (a1.2.2.2.1==(-1)) then
                              bnd (yc r1.2.1 3) fun r265 =>
                              bif r265.1.1 then
                                bnd (ya r265.2.1 a1.2.1.1) fun r266 =>
                                bif (inb r266.1.1 a1.2.2.1.length) then
                                  bnd (ya r266.2.1 a1.2.1.2) fun r267 =>
                                  let r268:=yh r267.1.1
                                  let r269:=yi ((nth a1.2.2.1 r266.1.1 ([],[],false,[])).1,((nth a1.2.2.1 r266.1.1 ([],[],false,[])).2).1,(((nth a1.2.2.1 r266.1.1 ([],[],false,[])).2).2)) r268
                                  bif (inb r266.1.1 a1.2.2.1.length) then
                                    some ((),(r267.2.1,(a1.1,a1.2.1,(a1.2.2.1.set (r266.1.1).toNat r269),a1.2.2.2),()))
                                  else none
                                else none
                              else
                                some ((),(r265.2.1,a1,()))
                            else
                              some ((),(r1.2.1,a1,()))
theorem yNo (x:InD yU):zjH ⟨yAh,160,yHc⟩ Tryz.f223.results.toList yzQ yU yaj x=yds x.1 x.2.1:=by kernel_rfl
theorem yJA:ConOk Tryz.prog 223 ⟨yU,yaj,fun x=>yds x.1 x.2.1⟩:=zkh (yFe) Tryz.func223 (by kernel_rfl) (by kernel_rfl) Tryz.ntmps223.symm (by decide) (fun x r h=>(yNo x).trans h)
def yw2:Con:=⟨yU,yaj,fun x=>yds x.1 x.2.1⟩
theorem yMi:ConOk Tryz.prog 223 yw2:=yJA
def yrC (k:Int) (z:Option (ResD yaj×MutD yU)):Prop:= ∃ (u':dU) (a':dA),z=some ((),(u',a',()))∧yM u'∧Wk (k+8) a'
def yPC (u:dU) (a:dA):Option (ResD yaj×MutD yU) :=
  bnd (ya u (yr a.2.1)) fun r3=>bnd (yQ r3.2.1) fun r4=>bnd (ydc a r3.1.1 r4.1.1) fun r5=>some ((),(r4.2.1,r5.2.1,()))
def yMM (u:dU) (a:dA):Option (ResD yaj×MutD yU) :=
  bnd (ya u a.2.1.2) fun r6=>bnd (yx a r6.1.1) fun r7=>some ((),(r6.2.1,r7.2.1,()))
def yO9 (u:dU) (a:dA):Option (ResD yaj×MutD yU) :=
  bnd (yc u 3) fun r9=>bif r9.1.1 then (bif (a.2.2.2.1==(-1)) then (bnd (ya r9.2.1 a.2.1.1) fun r10=>bnd (yA a r10.1.1) fun r11=>some ((),(r10.2.1,r11.2.1,()))) else some ((),(r9.2.1,a,()))) else some ((),(r9.2.1,a,()))
def yMN (u:dU) (a:dA):Option (ResD yaj×MutD yU) :=
  bif leb 0 a.2.2.2.1 then (bif inb a.2.2.2.1 a.2.2.1.length then (bif (nth a.2.2.1 a.2.2.2.1 yg).2.2.1 then (bnd (yw a) fun r12=>some ((),(u,r12.2.1,()))) else some ((),(u,a,()))) else none) else some ((),(u,a,()))
def yPa (u:dU) (a:dA):Option (ResD yaj×MutD yU) :=
  bif leb 0 a.2.2.2.1 then (bif inb a.2.2.2.1 a.2.2.1.length then (bif !(nth a.2.2.1 a.2.2.2.1 yg).2.2.1 then (bif ltb a.2.2.2.2.1 a.2.1.2 then (bnd (yk a) fun r13=>some ((),(u,r13.2.1,()))) else some ((),(u,a,()))) else some ((),(u,a,()))) else none) else some ((),(u,a,()))
def yCj (u:dU) (a:dA):Option (ResD yaj×MutD yU) :=
  bif (a.2.2.2.1==(-1)) then (bnd (yc u 3) fun r15=>bif r15.1.1 then (bnd (ya r15.2.1 a.2.1.1) fun r16=>bif inb r16.1.1 a.2.2.1.length then (bnd (ya r16.2.1 a.2.1.2) fun r17 =>
    bif inb r16.1.1 a.2.2.1.length then some ((),(r17.2.1,yqv a r16.1.1 (yrv (nth a.2.2.1 r16.1.1 yg) (ycH r17.1.1)),())) else none) else none) else some ((),(r15.2.1,a,()))) else some ((),(u,a,()))
theorem yzs {k:Int} {u:dU} {a:dA} (h:Wk k a) (hu:yM u):yrC k (yPC u a):=by
  have hg:=yn.1 h.1.1
  have hd:=yrK h.1.2.2.1 h.1.1
  obtain ⟨b,u1,e1,q1,d1⟩:=yB u (yr a.2.1) hu
  obtain ⟨x,u2,e2,q2,d2⟩:=yPt u1 d1
  have hx:isW x=true:=by rw [yaL]at q2; exact q2
  have hbl:0 < yr a.2.1:=by
    rw [yyY h.1.1]
    exact Int.mul_pos (by omega) (by omega)
  have hb:yih a.2.1 b=true:=by
    have:=q1.2.1 hbl
    unfold yih
    rw [zk0 q1.1,zk0 (show b≤yr a.2.1 - 1 by omega)]; rfl
  unfold yPC
  rw [e1,zky,e2,zky,yOc a b x (by unfold ylg; rw [yQh h,hb]; exact decide_eq_true (show a.2.2.2.2.2.2.2.2.1.length≤1000 by omega)),zky]
  exact ⟨_,_,rfl,d2,yP (yRl h hb hx) (by omega)⟩
theorem yzr {k:Int} {u:dU} {a:dA} (h:Wk k a) (hk:k+8≤60000) (hu:yM u):yrC k (yMM u a):=by
  have hd:=yrK h.1.2.2.1 h.1.1
  obtain ⟨s,u1,e1,q1,d1⟩:=yB u a.2.1.2 hu
  unfold yMM
  rw [e1,zky,yxg a s (decide_eq_true (show a.2.2.2.2.2.2.2.2.1.length≤1000 by omega)),zky]
  exact ⟨_,_,rfl,d1,yP (yPc s h (by omega)) (by omega)⟩
theorem yQA {k:Int} {u:dU} {a:dA} (h:Wk k a) (hk:k+8≤60000) (hu:yM u):yrC k (bnd (yI a) fun r8=>some ((),(u,r8.2.1,()))):=by
  have hd:=yrK h.1.2.2.1 h.1.1
  rw [yOa a (decide_eq_true (show a.2.2.2.2.2.2.2.2.1.length≤1000 by omega)),zky]
  exact ⟨_,_,rfl,hu,yRg h hk⟩
theorem yQg {k:Int} {u:dU} {a:dA} (h:Wk k a) (hk:k+8≤60000) (hu:yM u):yrC k (yO9 u a):=by
  have hg:=yn.1 h.1.1
  have hl:=h.2.1.1.2
  obtain ⟨r,u1,e1,d1⟩:=yPu u 3 hu
  unfold yO9
  rw [e1,zky]
  cases r
  · exact ⟨_,_,rfl,d1,yP h (by omega)⟩
  · cases h1:(a.2.2.2.1==(-1))
    · exact ⟨_,_,rfl,d1,yP h (by omega)⟩
    · obtain ⟨m,u2,e2,q2,d2⟩:=yB u1 a.2.1.1 d1
      have hm:inb m a.2.2.1.length=true:=zjP.2 ⟨q2.1,by have:=q2.2.1 (by omega); omega⟩
      simp only [cond_true]
      rw [e2,zky,yJR a m hm,zky]
      exact ⟨_,_,rfl,d2,yP (yQY h (beq_iff_eq.1 h1) hm (by omega)) (by omega)⟩
theorem yPR {k:Int} {u:dU} {a:dA} (h:Wk k a) (hk:k+8≤60000) (hu:yM u):yrC k (yMN u a):=by
  have hl:=h.2.1.1.2
  have hc:=h.1.2.2.2.1
  unfold yMN
  cases h0:leb 0 a.2.2.2.1
  · exact ⟨_,_,rfl,hu,yP h (by omega)⟩
  · have hi:inb a.2.2.2.1 a.2.2.1.length=true:=zjP.2 ⟨zjQ.1 h0,by omega⟩
    rw [hi]
    cases (nth a.2.2.1 a.2.2.2.1 yg).2.2.1
    · exact ⟨_,_,rfl,hu,yP h (by omega)⟩
    · simp only [cond_true]
      rw [yGx a (by unfold ygw; rw [h.1.1,hi]; rfl),zky]
      exact ⟨_,_,rfl,hu,yP (yQD h hi (by omega)) (by omega)⟩
theorem yMO {k:Int} {u:dU} {a:dA} (h:Wk k a) (hu:yM u):yrC k (yPa u a):=by
  have hl:=h.2.1.1.2
  have hc:=h.1.2.2.2.1
  unfold yPa
  cases h0:leb 0 a.2.2.2.1
  · exact ⟨_,_,rfl,hu,yP h (by omega)⟩
  · have h0':=zjQ.1 h0
    have hi:inb a.2.2.2.1 a.2.2.1.length=true:=zjP.2 ⟨h0',by omega⟩
    rw [hi]
    cases (nth a.2.2.1 a.2.2.2.1 yg).2.2.1
    · cases hb:ltb a.2.2.2.2.1 a.2.1.2
      · exact ⟨_,_,rfl,hu,yP h (by omega)⟩
      · simp only [cond_true,Bool.not_false]
        rw [yJS a (by unfold yhY; rw [h.1.1,hi,zjP.2 (show 0≤a.2.2.2.1∧a.2.2.2.1 < a.2.1.1.toNat by omega)]; rfl),zky]
        exact ⟨_,_,rfl,hu,yP (yQZ h hi (zjT.1 hb)) (by omega)⟩
    · exact ⟨_,_,rfl,hu,yP h (by omega)⟩
theorem yPS {k:Int} {u:dU} {a:dA} (h:Wk k a) (hu:yM u):yrC k (yCj u a):=by
  have hg:=yn.1 h.1.1
  have hl:=h.2.1.1.2
  unfold yCj
  cases (a.2.2.2.1==(-1))
  · exact ⟨_,_,rfl,hu,yP h (by omega)⟩
  · obtain ⟨r,u1,e1,d1⟩:=yPu u 3 hu
    simp only [cond_true]
    rw [e1,zky]
    cases r
    · exact ⟨_,_,rfl,d1,yP h (by omega)⟩
    · obtain ⟨m,u2,e2,q2,d2⟩:=yB u1 a.2.1.1 d1
      have hm:inb m a.2.2.1.length=true:=zjP.2 ⟨q2.1,by have:=q2.2.1 (by omega); omega⟩
      obtain ⟨s,u3,e3,q3,d3⟩:=yB u2 a.2.1.2 d2
      simp only [cond_true]
      rw [e2,zky]
      simp only [hm,cond_true]
      rw [e3,zky]
      exact ⟨_,_,rfl,d3,yP (yQE h hm) (by omega)⟩
theorem yQP {k:Int} (u:dU) (a:dA) (hu:yM u) (h:Wk k a) (hk:k+8≤60000):yrC k (yds u a):=by
  obtain ⟨r,u1,e1,q1,d1⟩:=yB u 14 hu
  have hr:=q1.2.1 (by omega)
  have h0:=q1.1
  unfold yds
  rw [e1,zky]
  have hc:(r=0∨r=1∨r=2∨r=3)∨(r=4∨r=5∨r=6)∨r=7∨r=8∨r=9∨(r=10∨r=11)∨r=12∨r=13:=by omega
  rcases hc with (rfl | rfl | rfl | rfl) | (rfl | rfl | rfl) | rfl | rfl | rfl | (rfl | rfl) | rfl | rfl
  · exact yzs h d1
  · exact yzs h d1
  · exact yzs h d1
  · exact yzs h d1
  · exact yzr h hk d1
  · exact yzr h hk d1
  · exact yzr h hk d1
  · exact yQA h hk d1
  · exact yQg h hk d1
  · exact yPR h hk d1
  · exact yMO h d1
  · exact yMO h d1
  · refine ⟨u1,yC a,?_,d1,yP (yPb h (by omega)) (by omega)⟩
    rw [← yAs]; rfl
  · have:=yPS h d1
    unfold yCj at this
    simp only [← ycV]at this
    exact this
end
end
end Go.Tf
