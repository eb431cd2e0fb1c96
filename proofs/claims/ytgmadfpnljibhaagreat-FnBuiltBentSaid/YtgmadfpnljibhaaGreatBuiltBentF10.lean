/- Functions of the program, and what they come to. -/
import Derived.Test.YtgmadfpnljibhaaGreatBuiltBentF9
namespace Go.Tf
noncomputable section
open Go.Proofs
set_option synthInstance.maxHeartbeats 400000
set_option synthInstance.maxSize 10000
set_option linter.unusedVariables false
set_option linter.unusedSimpArgs false
set_option maxRecDepth 100000
section
def yFd:Code:=(Tryz.f185.body).getD .skip
def yFR:Env:=zki TT [(146,yEq),(147,yBQ),(243,yyQ)] [(36928,(.pr .fz .fz))]
theorem yMA:FrOk Tryz.prog ⟨yFR,63,fun _=>none⟩ yFd:=zkp yc yd ⟨yWR,yUh,yLe,trivial⟩
def yN3:Nat→Option Seg:=fun _=>none
abbrev yek:List Par:= [.pt tA (.pr .fz (.pr (.pr .fz .fz) (.pr (.ow (.pr (.ow .fz) (.pr (.ow (.pr .fz .fz)) (.pr .fz (.ow .fz))))) (.pr .fz (.pr .fz (.pr .fz (.pr .fz (.pr .fz (.pr (.ow (.pr .fz .fz)) (.pr .fz (.pr .fz .fz))))))))))),.rd tI]
abbrev yk2:List OT:= [⟨false,tI,.fz⟩]
def ymf (a0:dA) (a1:Int):Option (ResD yk2×MutD yek) :=
  let r1:=yjE a0 a1
  bif (ltb r1 0) then
    some ((0,()),(a0,()))
  else
    bif (inb r1 a0.2.2.2.2.2.2.2.2.1.length) then
      let r2:=yaD a0 a1 ((nth a0.2.2.2.2.2.2.2.2.1 r1 (0,[])).2)
      bif (r2 !=0) then
        some ((r2,()),(a0,()))
      else
        bif (inb r1 a0.2.2.2.2.2.2.2.2.1.length) then
          bnd (yqF a0 a1 ((nth a0.2.2.2.2.2.2.2.2.1 r1 (0,[])).2)) fun r3 =>
          bif (r3.1.1==0) then
            bif (zjG 0 r1 r3.2.1.2.2.2.2.2.2.2.2.1.length) then
              bif (zj4 ([]:List dW).length ((r3.2.1.2.2.2.2.2.2.2.2.1.drop (0:Int).toNat).take (r1 - 0).toNat).length 32) then
                bif (zjG (IntKind.i64.wrap (r1+1)) (r3.2.1.2.2.2.2.2.2.2.2.1.length:Int) r3.2.1.2.2.2.2.2.2.2.2.1.length) then
                  bif (zj4 (([]:List dW)++((r3.2.1.2.2.2.2.2.2.2.2.1.drop (0:Int).toNat).take (r1 - 0).toNat)).length ((r3.2.1.2.2.2.2.2.2.2.2.1.drop ((IntKind.i64.wrap (r1+1))).toNat).take ((r3.2.1.2.2.2.2.2.2.2.2.1.length:Int) - (IntKind.i64.wrap (r1+1))).toNat).length 32) then
                    some ((r3.1.1,()),((r3.2.1.1,r3.2.1.2.1,r3.2.1.2.2.1,r3.2.1.2.2.2.1,r3.2.1.2.2.2.2.1,r3.2.1.2.2.2.2.2.1,r3.2.1.2.2.2.2.2.2.1,r3.2.1.2.2.2.2.2.2.2.1,((([]:List dW)++((r3.2.1.2.2.2.2.2.2.2.2.1.drop (0:Int).toNat).take (r1 - 0).toNat))++((r3.2.1.2.2.2.2.2.2.2.2.1.drop ((IntKind.i64.wrap (r1+1))).toNat).take ((r3.2.1.2.2.2.2.2.2.2.2.1.length:Int) - (IntKind.i64.wrap (r1+1))).toNat)),r3.2.1.2.2.2.2.2.2.2.2.2),()))
                  else none
                else none
              else none
            else none
          else
            some ((r3.1.1,()),(r3.2.1,()))
        else none
    else none
theorem yVq (x:InD yek):zjH ⟨yFR,63,yN3⟩ Tryz.f185.results.toList yFd yek yk2 x=ymf x.1 x.2.1:=by kernel_rfl
theorem yQA:ConOk Tryz.prog 185 ⟨yek,yk2,fun x=>ymf x.1 x.2.1⟩:=zkh (yMA) Tryz.func185 (by kernel_rfl) (by kernel_rfl) Tryz.ntmps185.symm (by decide) (fun x r h=>(yVq x).trans h)
def yll (a0:dA) (a1:Int):Int×dA:=yk9 a0 a1
def yxd (a0:dA) (a1:Int):Bool:=decide (a0.2.2.2.2.2.2.2.2.1.length≤1000)
theorem yTu (a0:dA) (a1:Int) (hk:zi9 yek (a0,a1,())) (hq:yxd a0 a1=true):ymf a0 a1=(fun n=>some ((n.1,()),(n.2,()))) (yll a0 a1):=by
  have hq:=of_decide_eq_true hq
  unfold ymf yll yk9
  simp only [yjE]
  cases h0:ltb (yah a0.2.2.2.2.2.2.2.2.1 a1) 0
  · have h1:=zkU h0
    have hi:inb (yah a0.2.2.2.2.2.2.2.2.1 a1) a0.2.2.2.2.2.2.2.2.1.length=true:=(ywX (d:=((0:Int),([]:List Int))) (zk0 h1)).1
    simp only [hi,cond_true,cond_false]
    generalize hD:(nth a0.2.2.2.2.2.2.2.2.1 (yah a0.2.2.2.2.2.2.2.2.1 a1) (0,[])).2=D
    cases hc:(yaD a0 a1 D !=0)
    · obtain ⟨ha,hl,hw,hd,hs,hb,_⟩:=yW7 (bne_eq_false_iff_eq.1 hc)
      rw [yUk a0 a1 D (by unfold ylo; rw [hs,hl,yxD ha]; simp)]
      simp only [zky,cond_false,ylk,y0f]
      have hk:=zjP.1 hi
      cases hr:((ygd a0 a1 D).1==0)
      · rfl
      · generalize yah a0.2.2.2.2.2.2.2.2.1 a1=K at h1 hk
        rw [wr (show -9223372036854775808≤K+1 by omega) (by omega),zko.2 (show (0:Int)≤0∧0≤K∧K≤(a0.2.2.2.2.2.2.2.2.1.length:Int) by omega),zko.2 (show 0≤K+1∧K+1≤(a0.2.2.2.2.2.2.2.2.1.length:Int)∧(a0.2.2.2.2.2.2.2.2.1.length:Int)≤(a0.2.2.2.2.2.2.2.2.1.length:Int) by omega),
          zkw.2 (by rw [List.length_take,List.length_drop,List.length_nil]; omega),zkw.2 (by rw [List.length_append,List.length_take,List.length_take,List.length_drop,List.length_drop,List.length_nil]; omega),y0T h1 hk.2]
        rw [beq_iff_eq.1 hr]; rfl
    · rfl
  · rfl
def ycE (a0:dA) (a1:Int):Option (ResD yk2×MutD yek):=bif yxd a0 a1 then (fun n=>some ((n.1,()),(n.2,()))) (yll a0 a1) else none
theorem yEJ (a0:dA) (a1:Int) (h:yxd a0 a1=true):ycE a0 a1=(fun n=>some ((n.1,()),(n.2,()))) (yll a0 a1):=by unfold ycE; rw [h]; rfl
def yta:Con:=⟨yek,yk2,fun x=>ycE x.1 x.2.1⟩
theorem yEG:ConOk Tryz.prog 185 yta:=(yQA).mono (fun x r hk h=>zkW h (fun hq=>yTu x.1 x.2.1 hk hq))
end
section
def yoU:Code:=(Tryz.f186.body).getD .skip
def yuj:Env:=zki TT [(185,yta)] []
theorem ySU:FrOk Tryz.prog ⟨yuj,22,fun _=>none⟩ yoU:=zkp yc yd ⟨yEG,trivial⟩
def yFB:Nat→Option Seg:=fun _=>none
def yel:Shape:=⟨[(0,false,[.ptr 1000000000 0])],[(1000000000,[.int .i64,.int .i64,.int .i64,.at 800000000,.int .i64,.int .i64,.int .i64,.int .i64,.int .i64,.at 800000001,.int .i64,.bool,.bool])],[(800000000,tM,(.pr (.ow .fz) (.pr (.ow (.pr .fz .fz)) (.pr .fz (.ow .fz))))),(800000001,tW,(.pr .fz .fz))]⟩
def ykT:Shape:=⟨[(0,false,[.ptr 1000000000 0])],[(1000000000,[.int .i64,.int .i64,.int .i64,.at 800000000,.int .i64,.int .i64,.int .i64,.int .i64,.int .i64,.at 800000001,.int .i64,.bool,.bool])],[(800000000,tM,(.pr (.ow .fz) (.pr (.ow (.pr .fz .fz)) (.pr .fz (.ow .fz))))),(800000001,tW,(.pr .fz .fz))]⟩
def ykR:Shape:=⟨[],[(1000000000,[.int .i64,.int .i64,.int .i64,.at 800000000,.int .i64,.int .i64,.int .i64,.int .i64,.int .i64,.at 800000001,.int .i64,.bool,.bool])],[(800000000,tM,(.pr (.ow .fz) (.pr (.ow (.pr .fz .fz)) (.pr .fz (.ow .fz))))),(800000001,tW,(.pr .fz .fz))]⟩
def yk3:Shape:=⟨[(2,false,[.int .i64])],[(1000000000,[.int .i64,.int .i64,.int .i64,.at 800000000,.int .i64,.int .i64,.int .i64,.int .i64,.int .i64,.at 800000001,.int .i64,.bool,.bool])],[(800000000,tM,(.pr (.ow .fz) (.pr (.ow (.pr .fz .fz)) (.pr .fz (.ow .fz))))),(800000001,tW,(.pr .fz .fz))]⟩
abbrev yvp (v0:dA):(yel).X:=((((),()),()),((v0.1,v0.2.1.1,v0.2.1.2,(),v0.2.2.2.1,v0.2.2.2.2.1,v0.2.2.2.2.2.1,v0.2.2.2.2.2.2.1,v0.2.2.2.2.2.2.2.1,(),v0.2.2.2.2.2.2.2.2.2.1,v0.2.2.2.2.2.2.2.2.2.2.1,v0.2.2.2.2.2.2.2.2.2.2.2,()),()),(v0.2.2.1,v0.2.2.2.2.2.2.2.2.1,()))
abbrev yS6 (v0:dA):(ykT).X:=((((),()),()),((v0.1,v0.2.1.1,v0.2.1.2,(),v0.2.2.2.1,v0.2.2.2.2.1,v0.2.2.2.2.2.1,v0.2.2.2.2.2.2.1,v0.2.2.2.2.2.2.2.1,(),v0.2.2.2.2.2.2.2.2.2.1,v0.2.2.2.2.2.2.2.2.2.2.1,v0.2.2.2.2.2.2.2.2.2.2.2,()),()),(v0.2.2.1,v0.2.2.2.2.2.2.2.2.1,()))
abbrev yS4 (v0:dA):(ykR).X:=((),((v0.1,v0.2.1.1,v0.2.1.2,(),v0.2.2.2.1,v0.2.2.2.2.1,v0.2.2.2.2.2.1,v0.2.2.2.2.2.2.1,v0.2.2.2.2.2.2.2.1,(),v0.2.2.2.2.2.2.2.2.2.1,v0.2.2.2.2.2.2.2.2.2.2.1,v0.2.2.2.2.2.2.2.2.2.2.2,()),()),(v0.2.2.1,v0.2.2.2.2.2.2.2.2.1,()))
abbrev yS8 (v0:Int) (v1:dA):(yk3).X:=(((v0,()),()),((v1.1,v1.2.1.1,v1.2.1.2,(),v1.2.2.2.1,v1.2.2.2.2.1,v1.2.2.2.2.2.1,v1.2.2.2.2.2.2.1,v1.2.2.2.2.2.2.2.1,(),v1.2.2.2.2.2.2.2.2.2.1,v1.2.2.2.2.2.2.2.2.2.2.1,v1.2.2.2.2.2.2.2.2.2.2.2,()),()),(v1.2.2.1,v1.2.2.2.2.2.2.2.2.1,()))
def yvX (v0:Int) (v1:Int) (v2:Int) (v3:Int) (v4:Int) (v5:Int) (v6:Int) (v7:Int) (v8:Int) (v9:Bool) (v10:Bool) (v11:List dM) (v12:List dW):Option ((yel).X ⊕ ((ykR).X ⊕ (yk3).X)) :=
  bif (ltb 0 (v12.length:Int)) then
    bif (inb 0 v12.length) then
      bnd (ycE (v0,(v1,v2),v11,v3,v4,v5,v6,v7,v12,v8,v9,v10) ((nth v12 0 (0,[])).1)) fun r2 =>
      bif (r2.1.1 !=0) then
        some (.inr (.inr (((r2.1.1,()),()),((r2.2.1.1,r2.2.1.2.1.1,r2.2.1.2.1.2,(),r2.2.1.2.2.2.1,r2.2.1.2.2.2.2.1,r2.2.1.2.2.2.2.2.1,r2.2.1.2.2.2.2.2.2.1,r2.2.1.2.2.2.2.2.2.2.1,(),r2.2.1.2.2.2.2.2.2.2.2.2.1,r2.2.1.2.2.2.2.2.2.2.2.2.2.1,r2.2.1.2.2.2.2.2.2.2.2.2.2.2,()),()),(r2.2.1.2.2.1,r2.2.1.2.2.2.2.2.2.2.2.1,()))))
      else
        some (.inl ((((),()),()),((r2.2.1.1,r2.2.1.2.1.1,r2.2.1.2.1.2,(),r2.2.1.2.2.2.1,r2.2.1.2.2.2.2.1,r2.2.1.2.2.2.2.2.1,r2.2.1.2.2.2.2.2.2.1,r2.2.1.2.2.2.2.2.2.2.1,(),r2.2.1.2.2.2.2.2.2.2.2.2.1,r2.2.1.2.2.2.2.2.2.2.2.2.2.1,r2.2.1.2.2.2.2.2.2.2.2.2.2.2,()),()),(r2.2.1.2.2.1,r2.2.1.2.2.2.2.2.2.2.2.1,())))
    else none
  else
    some (.inr (.inl ((),((v0,v1,v2,(),v3,v4,v5,v6,v7,(),v8,v9,v10,()),()),(v11,v12,()))))
def yeu (x:(yel).X):=yvX x.2.1.1.1 x.2.1.1.2.1 x.2.1.1.2.2.1 x.2.1.1.2.2.2.2.1 x.2.1.1.2.2.2.2.2.1 x.2.1.1.2.2.2.2.2.2.1 x.2.1.1.2.2.2.2.2.2.2.1 x.2.1.1.2.2.2.2.2.2.2.2.1 x.2.1.1.2.2.2.2.2.2.2.2.2.2.1 x.2.1.1.2.2.2.2.2.2.2.2.2.2.2.1 x.2.1.1.2.2.2.2.2.2.2.2.2.2.2.2.1 x.2.2.1 x.2.2.2.1
def yEt (x:(ykT).X):(yel).X:=((((),()),()),((x.2.1.1.1,x.2.1.1.2.1,x.2.1.1.2.2.1,(),x.2.1.1.2.2.2.2.1,x.2.1.1.2.2.2.2.2.1,x.2.1.1.2.2.2.2.2.2.1,x.2.1.1.2.2.2.2.2.2.2.1,x.2.1.1.2.2.2.2.2.2.2.2.1,(),x.2.1.1.2.2.2.2.2.2.2.2.2.2.1,x.2.1.1.2.2.2.2.2.2.2.2.2.2.2.1,x.2.1.1.2.2.2.2.2.2.2.2.2.2.2.2.1,()),()),(x.2.2.1,x.2.2.2.1,()))
def yFV:Code:=(zdI yoU 64 24).getD .skip
theorem yU1:zdI yoU 64 6=some (.block 0 (.loop yFV)):=by kernel_rfl
theorem yWY (x:(yel).X):zg7 ⟨yuj,22,yFB⟩ 0 yFV 24 yel ykR yk3 x=yeu x:=by kernel_rfl
def yEv (x:(ykT).X):Nat:=(fun (u0:Int) (u1:Int) (u2:Int) (u3:Int) (u4:Int) (u5:Int) (u6:Int) (u7:Int) (u8:Int) (u9:Bool) (u10:Bool) (u11:List dM) (u12:List dW)=>18446744073709551616) x.2.1.1.1 x.2.1.1.2.1 x.2.1.1.2.2.1 x.2.1.1.2.2.2.2.1 x.2.1.1.2.2.2.2.2.1 x.2.1.1.2.2.2.2.2.2.1 x.2.1.1.2.2.2.2.2.2.2.1 x.2.1.1.2.2.2.2.2.2.2.2.1 x.2.1.1.2.2.2.2.2.2.2.2.2.2.1 x.2.1.1.2.2.2.2.2.2.2.2.2.2.2.1 x.2.1.1.2.2.2.2.2.2.2.2.2.2.2.2.1 x.2.2.1 x.2.2.2.1
def ywL (x:(ykT).X):Option ((ykR).X ⊕ (yk3).X):=zr yeu (yEv x) (yEt x)
def yEL:Seg:=⟨ykT,ykR,yk3,ywL⟩
def yFC:Nat→Option Seg:=fun q=>bif Nat.beq q 6 then some yEL else yFB q
theorem ySV:FrOk Tryz.prog ⟨yuj,22,yFC⟩ yoU:=(ySU).loop (sg:=yEL) yel yEt (by decide) yU1 yeu yEv (by decide) (fun _=>rfl) (fun x r _ h=>h) yWY
abbrev ygV:List Par:= [.pt tA (.pr .fz (.pr (.pr .fz .fz) (.pr (.ow (.pr (.ow .fz) (.pr (.ow (.pr .fz .fz)) (.pr .fz (.ow .fz))))) (.pr .fz (.pr .fz (.pr .fz (.pr .fz (.pr .fz (.pr (.ow (.pr .fz .fz)) (.pr .fz (.pr .fz .fz)))))))))))]
abbrev ypm:List OT:= [⟨false,tI,.fz⟩]
def yqX (a0:dA):Option (ResD ypm×MutD ygV) :=
  zjw (ywL ((((),()),()),((a0.1,a0.2.1.1,a0.2.1.2,(),a0.2.2.2.1,a0.2.2.2.2.1,a0.2.2.2.2.2.1,a0.2.2.2.2.2.2.1,a0.2.2.2.2.2.2.2.1,(),a0.2.2.2.2.2.2.2.2.2.1,a0.2.2.2.2.2.2.2.2.2.2.1,a0.2.2.2.2.2.2.2.2.2.2.2,()),()),(a0.2.2.1,a0.2.2.2.2.2.2.2.2.1,()))) (fun y2 =>
    some ((0,()),((y2.2.1.1.1,(y2.2.1.1.2.1,y2.2.1.1.2.2.1),y2.2.2.1,y2.2.1.1.2.2.2.2.1,y2.2.1.1.2.2.2.2.2.1,y2.2.1.1.2.2.2.2.2.2.1,y2.2.1.1.2.2.2.2.2.2.2.1,y2.2.1.1.2.2.2.2.2.2.2.2.1,y2.2.2.2.1,y2.2.1.1.2.2.2.2.2.2.2.2.2.2.1,y2.2.1.1.2.2.2.2.2.2.2.2.2.2.2.1,y2.2.1.1.2.2.2.2.2.2.2.2.2.2.2.2.1),()))) (fun y2 =>
    some ((y2.1.1.1,()),((y2.2.1.1.1,(y2.2.1.1.2.1,y2.2.1.1.2.2.1),y2.2.2.1,y2.2.1.1.2.2.2.2.1,y2.2.1.1.2.2.2.2.2.1,y2.2.1.1.2.2.2.2.2.2.1,y2.2.1.1.2.2.2.2.2.2.2.1,y2.2.1.1.2.2.2.2.2.2.2.2.1,y2.2.2.2.1,y2.2.1.1.2.2.2.2.2.2.2.2.2.2.1,y2.2.1.1.2.2.2.2.2.2.2.2.2.2.2.1,y2.2.1.1.2.2.2.2.2.2.2.2.2.2.2.2.1),())))
theorem yZv (x:InD ygV):zjH ⟨yuj,22,yFC⟩ Tryz.f186.results.toList yoU ygV ypm x=yqX x.1:=by kernel_rfl
theorem yWw:ConOk Tryz.prog 186 ⟨ygV,ypm,fun x=>yqX x.1⟩:=zkh (ySV) Tryz.func186 (by kernel_rfl) (by kernel_rfl) Tryz.ntmps186.symm (by decide) (fun x r h=>(yZv x).trans h)
def yvt (a0:dA):Int×dA:=y1l a0
def yCI (a0:dA):Bool:=decide (a0.2.2.2.2.2.2.2.2.1.length≤1000)
theorem yYw (a0:dA) (hk:zi9 ygV (a0,())) (hq:yCI a0=true):yqX a0=(fun n=>some ((n.1,()),(n.2,()))) (yvt a0):=by
  have hq:=of_decide_eq_true hq
  have h1:=zkr (step:=yeu) a0.2.2.2.2.2.2.2.2.1.length (fun _ s=>yvp s) yOg (fun i s=>s.2.2.2.2.2.2.2.2.1.length+i=a0.2.2.2.2.2.2.2.2.1.length) (fun b=>(0,b))
    (fun r=>bif r.1==0 then .inl (yS4 r.2) else .inr (yS8 r.1 r.2)) (fun i s hi hs=>by
      have hp:0 < s.2.2.2.2.2.2.2.2.1.length:=by omega
      constructor
      · simp only [yeu,yvp,yvX,zkV,zjI (show (0:Int) < (s.2.2.2.2.2.2.2.2.1.length:Int) by omega),cond_true,show inb 0 s.2.2.2.2.2.2.2.2.1.length=true from zkO (i:=0) hp]
        rw [yEJ s (nth s.2.2.2.2.2.2.2.2.1 0 (0,[])).1 (decide_eq_true (show s.2.2.2.2.2.2.2.2.1.length≤1000 by omega))]
        simp only [zky,yll]
        unfold yOg
        generalize yk9 s (nth s.2.2.2.2.2.2.2.2.1 0 (0,[])).1=R
        cases hr:(R.1 !=0)
        · rfl
        · simp only [cond_true]
          rw [show (R.1==0)=false from beq_eq_false_iff_ne.2 (bne_iff_ne.1 hr)]; rfl
      · intro s' h
        unfold yOg at h
        cases hr:((yk9 s (nth s.2.2.2.2.2.2.2.2.1 0 (0,[])).1).1 !=0)
        · rw [hr]at h
          simp only [cond_false,Sum.inl.injEq]at h
          rw [← h,y0A hp (bne_eq_false_iff_eq.1 hr),List.length_drop]; omega
        · rw [hr]at h; cases h) (fun s hs=>by
      simp only [yeu,yvp,yvX,show ltb 0 (s.2.2.2.2.2.2.2.2.1.length:Int)=false from zkm (by omega)]; rfl) a0 rfl 18446744073709551616 (by omega)
  unfold yqX yvt y1l
  refine (congrArg (fun z=>zjw z _ _) (show ywL (yS6 a0)=_ from h1)).trans ?_
  generalize goE yOg (fun b=>(0,b)) a0.2.2.2.2.2.2.2.2.1.length 0 a0=R
  cases hr:(R.1==0)
  · rfl
  · simp only [cond_true,zkJ,zkV]
    rw [show R.1=0 from beq_iff_eq.1 hr]
def ypQ (a0:dA):Option (ResD ypm×MutD ygV):=bif yCI a0 then (fun n=>some ((n.1,()),(n.2,()))) (yvt a0) else none
theorem yYQ (a0:dA) (h:yCI a0=true):ypQ a0=(fun n=>some ((n.1,()),(n.2,()))) (yvt a0):=by unfold ypQ; rw [h]; rfl
def yF7:Con:=⟨ygV,ypm,fun x=>ypQ x.1⟩
theorem yYN:ConOk Tryz.prog 186 yF7:=(yWw).mono (fun x r hk h=>zkW h (fun hq=>yYw x.1 hk hq))
end
section
def yE5:Code:=(Tryz.f232.body).getD .skip
def yFJ:Env:=zki TT [(152,yfp)] [(12288,(.pr .fz .fz))]
theorem yMi:FrOk Tryz.prog ⟨yFJ,10,fun _=>none⟩ yE5:=zkp yc yd ⟨yln,trivial⟩
def yNV:Nat→Option Seg:=fun _=>none
abbrev ykH:List Par:= [.rd tM]
abbrev yqp:List OT:= [⟨false,tM,(.pr (.ow .fz) (.pr (.ow (.pr .fz .fz)) (.pr .fz (.ow .fz))))⟩]
def ytA (a0:dM):Option (ResD yqp×MutD ykH) :=
  let r1:=yS a0
  some (((r1.1,([]:List dW),true,r1.2.2.2),()),())
theorem yVd (x:InD ykH):zjH ⟨yFJ,10,yNV⟩ Tryz.f232.results.toList yE5 ykH yqp x=ytA x.1:=by kernel_rfl
theorem yQn:ConOk Tryz.prog 232 ⟨ykH,yqp,fun x=>ytA x.1⟩:=zkh (yMi) Tryz.func232 (by kernel_rfl) (by kernel_rfl) Tryz.ntmps232.symm (by decide) (fun x r h=>(yVd x).trans h)
def yle (a0:dM):dM :=
  let r1:=yS a0
  (r1.1,([]:List dW),true,r1.2.2.2)
def ys6:Con:=⟨ykH,yqp,fun x=>(fun n=>some ((n,()),())) (yle x.1)⟩
theorem yTj (a0:dM):ytA a0=(fun n=>some ((n,()),())) (yle a0):=zkS (p:=fun (n:dM)=>((n,()),())) rfl
theorem yEC:ConOk Tryz.prog 232 ys6:=(yQn).mono (fun x r _ h=>(yTj x.1).trans h)
end
section
def yE8:Code:=(Tryz.f199.body).getD .skip
def yFM:Env:=zki TT [(203,yjk),(232,ys6)] []
theorem yMn:FrOk Tryz.prog ⟨yFM,62,fun _=>none⟩ yE8:=zkp yc yd ⟨yqH,yEC,trivial⟩
def yNY:Nat→Option Seg:=fun _=>none
abbrev yee:List Par:= [.pt tA (.pr .fz (.pr (.pr .fz .fz) (.pr (.ow (.pr (.ow .fz) (.pr (.ow (.pr .fz .fz)) (.pr .fz (.ow .fz))))) (.pr .fz (.pr .fz (.pr .fz (.pr .fz (.pr .fz (.pr (.ow (.pr .fz .fz)) (.pr .fz (.pr .fz .fz))))))))))),.rd tI]
abbrev ykW:List OT:= []
def yl9 (a0:dA) (a1:Int):Option (ResD ykW×MutD yee) :=
  bif (inb a1 a0.2.2.1.length) then
    let r1:=yle ((nth a0.2.2.1 a1 ([],[],false,[])).1,((nth a0.2.2.1 a1 ([],[],false,[])).2).1,(((nth a0.2.2.1 a1 ([],[],false,[])).2).2))
    bif (inb a1 a0.2.2.1.length) then
      bif (!(a0.2.2.2.1==(-1))) then
        bif (a0.2.2.2.1==a1) then
          bif (!a0.2.2.2.2.2.2.2.2.2.2.1) then
            bif (!a0.2.2.2.2.2.2.2.2.2.2.2) then
              bif (ltb a0.2.2.2.2.2.2.2.1 60000) then
                let r2:=yT (a0.1,a0.2.1,(a0.2.2.1.set (a1).toNat r1),a1,0,a0.2.2.2.2.2)
                some ((),(r2,()))
              else
                some ((),((a0.1,a0.2.1,(a0.2.2.1.set (a1).toNat r1),a1,0,a0.2.2.2.2.2),()))
            else
              some ((),((a0.1,a0.2.1,(a0.2.2.1.set (a1).toNat r1),a1,0,a0.2.2.2.2.2),()))
          else
            some ((),((a0.1,a0.2.1,(a0.2.2.1.set (a1).toNat r1),a1,0,a0.2.2.2.2.2),()))
        else
          bif (!a0.2.2.2.2.2.2.2.2.2.2.1) then
            some ((),((a0.1,a0.2.1,(a0.2.2.1.set (a1).toNat r1),a0.2.2.2.1,a0.2.2.2.2.1,a0.2.2.2.2.2.1,a0.2.2.2.2.2.2.1,a0.2.2.2.2.2.2.2.1,a0.2.2.2.2.2.2.2.2.1,a0.2.2.2.2.2.2.2.2.2.1,a0.2.2.2.2.2.2.2.2.2.2.1,true),()))
          else
            some ((),((a0.1,a0.2.1,(a0.2.2.1.set (a1).toNat r1),a0.2.2.2.1,a0.2.2.2.2.1,a0.2.2.2.2.2.1,a0.2.2.2.2.2.2.1,a0.2.2.2.2.2.2.2.1,a0.2.2.2.2.2.2.2.2.1,a0.2.2.2.2.2.2.2.2.2.1,a0.2.2.2.2.2.2.2.2.2.2.1,true),()))
      else
        bif (!a0.2.2.2.2.2.2.2.2.2.2.1) then
          bif (!a0.2.2.2.2.2.2.2.2.2.2.2) then
            bif (ltb a0.2.2.2.2.2.2.2.1 60000) then
              let r3:=yT (a0.1,a0.2.1,(a0.2.2.1.set (a1).toNat r1),a1,0,a0.2.2.2.2.2)
              some ((),(r3,()))
            else
              some ((),((a0.1,a0.2.1,(a0.2.2.1.set (a1).toNat r1),a1,0,a0.2.2.2.2.2),()))
          else
            some ((),((a0.1,a0.2.1,(a0.2.2.1.set (a1).toNat r1),a1,0,a0.2.2.2.2.2),()))
        else
          some ((),((a0.1,a0.2.1,(a0.2.2.1.set (a1).toNat r1),a1,0,a0.2.2.2.2.2),()))
    else none
  else none
theorem yVh (x:InD yee):zjH ⟨yFM,62,yNY⟩ Tryz.f199.results.toList yE8 yee ykW x=yl9 x.1 x.2.1:=by kernel_rfl
theorem yQr:ConOk Tryz.prog 199 ⟨yee,ykW,fun x=>yl9 x.1 x.2.1⟩:=zkh (yMn) Tryz.func199 (by kernel_rfl) (by kernel_rfl) Tryz.ntmps199.symm (by decide) (fun x r h=>(yVh x).trans h)
def yqC (a0:dA) (a1:Int):dA:=yqA a0 a1
def yxa (a0:dA) (a1:Int):Bool:=inb a1 a0.2.2.1.length
theorem yTn (a0:dA) (a1:Int) (hk:zi9 yee (a0,a1,())) (hq:yxa a0 a1=true):yl9 a0 a1=(fun n=>some ((),(n,()))) (yqC a0 a1):=by
  have hq:inb a1 a0.2.2.1.length=true:=hq
  unfold yl9 yqC yqA yfB ylT yAQ yg
  simp only [hq,zkV,yle,yS,yT]
  cases (a0.2.2.2.1== -1)<;>cases (a0.2.2.2.1==a1)<;>cases a0.2.2.2.2.2.2.2.2.2.2.1<;>cases a0.2.2.2.2.2.2.2.2.2.2.2<;>cases ltb a0.2.2.2.2.2.2.2.1 60000<;>rfl
def ygF (a0:dA) (a1:Int):Option (ResD ykW×MutD yee):=bif yxa a0 a1 then (fun n=>some ((),(n,()))) (yqC a0 a1) else none
theorem yEH (a0:dA) (a1:Int) (h:yxa a0 a1=true):ygF a0 a1=(fun n=>some ((),(n,()))) (yqC a0 a1):=by unfold ygF; rw [h]; rfl
def ys7:Con:=⟨yee,ykW,fun x=>ygF x.1 x.2.1⟩
theorem yED:ConOk Tryz.prog 199 ys7:=(yQr).mono (fun x r hk h=>zkW h (fun hq=>yTn x.1 x.2.1 hk hq))
end
section
def yij:Code:=(Tryz.f265.body).getD .skip
def ynO:Env:=zki TT [(135,yq),(152,yfp),(224,ygz),(238,ywW)] []
theorem yKv:FrOk Tryz.prog ⟨ynO,68,fun _=>none⟩ yij:=zkp yc yd ⟨yz,yln,ym8,yIf,trivial⟩
def yzq:Nat→Option Seg:=fun _=>none
def yaN:Shape:=⟨[(1,false,[.int .i64]),(4,false,[.ptr 64 0]),(5,false,[.ptr 4224 0]),(6,false,[.int .i64])],[(64,[.nil,.nil,.bool,.nil]),(4224,[.at 800000000,.at 800000001,.bool,.at 800000002])],[(800000000,tL,.fz),(800000001,tW,(.pr .fz .fz)),(800000002,tI,.fz)]⟩
def yd6:Shape:=⟨[(1,false,[.int .i64]),(4,false,[.ptr 64 0]),(5,false,[.ptr 4224 0]),(6,false,[.int .i64])],[(64,[.nil,.nil,.bool,.nil]),(4224,[.at 800000000,.at 800000001,.bool,.at 800000002])],[(800000000,tL,.fz),(800000001,tW,(.pr .fz .fz)),(800000002,tI,.fz)]⟩
def yd1:Shape:=⟨[(1,false,[.int .i64]),(4,false,[.ptr 64 0]),(5,false,[.ptr 4224 0]),(6,false,[.int .i64])],[(64,[.nil,.nil,.bool,.nil]),(4224,[.at 800000000,.at 800000001,.bool,.at 800000002])],[(800000000,tL,.fz),(800000001,tW,(.pr .fz .fz)),(800000002,tI,.fz)]⟩
def yhJ:Shape:=⟨[],[],[]⟩
abbrev ylX (v0:Int) (v1:Int) (v2:dM) (v3:dM):(yaN).X:=(((v0,()),((),()),((),()),(v1,()),()),(((),(),v2.2.2.1,(),()),((),(),v3.2.2.1,(),()),()),(v3.1,v3.2.1,v3.2.2.2,()))
abbrev yGX (v0:Int) (v1:Int) (v2:dM) (v3:dM):(yd6).X:=(((v0,()),((),()),((),()),(v1,()),()),(((),(),v2.2.2.1,(),()),((),(),v3.2.2.1,(),()),()),(v3.1,v3.2.1,v3.2.2.2,()))
abbrev yGS (v0:Int) (v1:Int) (v2:dM) (v3:dM):(yd1).X:=(((v0,()),((),()),((),()),(v1,()),()),(((),(),v2.2.2.1,(),()),((),(),v3.2.2.1,(),()),()),(v3.1,v3.2.1,v3.2.2.2,()))
def ymi (v0:Int) (v1:Int) (v2:Bool) (v3:Bool) (v4:List (List Int)) (v5:List dW) (v6:List Int):Option ((yaN).X ⊕ ((yd1).X ⊕ (yhJ).X)) :=
  bif (ltb 0 v1) then
    bif (inb (IntKind.i64.wrap (v1 - 1)) v6.length) then
      bif (ltb v0 (nth v6 (IntKind.i64.wrap (v1 - 1)) 0)) then
        bif (inb (IntKind.i64.wrap (v1 - 1)) v6.length) then
          bif (inb v1 v6.length) then
            some (.inl (((v0,()),((),()),((),()),((IntKind.i64.wrap (v1 - 1)),()),()),(((),(),v2,(),()),((),(),v3,(),()),()),(v4,v5,(v6.set (v1).toNat (nth v6 (IntKind.i64.wrap (v1 - 1)) 0)),())))
          else none
        else none
      else
        some (.inr (.inl (((v0,()),((),()),((),()),(v1,()),()),(((),(),v2,(),()),((),(),v3,(),()),()),(v4,v5,v6,()))))
    else none
  else
    some (.inr (.inl (((v0,()),((),()),((),()),(v1,()),()),(((),(),v2,(),()),((),(),v3,(),()),()),(v4,v5,v6,()))))
def ya2 (x:(yaN).X):=ymi x.1.1.1 x.1.2.2.2.1.1 x.2.1.1.2.2.1 x.2.1.2.1.2.2.1 x.2.2.1 x.2.2.2.1 x.2.2.2.2.1
def yvh (x:(yd6).X):(yaN).X:=(((x.1.1.1,()),((),()),((),()),(x.1.2.2.2.1.1,()),()),(((),(),x.2.1.1.2.2.1,(),()),((),(),x.2.1.2.1.2.2.1,(),()),()),(x.2.2.1,x.2.2.2.1,x.2.2.2.2.1,()))
def yv4:Code:=(zdI yij 64 504).getD .skip
theorem yIm:zdI yij 64 126=some (.block 0 (.loop yv4)):=by kernel_rfl
theorem yI0 (x:(yaN).X):zg7 ⟨ynO,68,yzq⟩ 0 yv4 504 yaN yd1 yhJ x=ya2 x:=by kernel_rfl
def yvm (x:(yd6).X):Nat:=(fun (u0:Int) (u1:Int) (u2:Bool) (u3:Bool) (u4:List (List Int)) (u5:List dW) (u6:List Int)=>18446744073709551616) x.1.1.1 x.1.2.2.2.1.1 x.2.1.1.2.2.1 x.2.1.2.1.2.2.1 x.2.2.1 x.2.2.2.1 x.2.2.2.2.1
def yni (x:(yd6).X):Option ((yd1).X ⊕ (yhJ).X):=zr ya2 (yvm x) (yvh x)
def yvU:Seg:=⟨yd6,yd1,yhJ,yni⟩
def yzr:Nat→Option Seg:=fun q=>bif Nat.beq q 126 then some yvU else yzq q
theorem yKw:FrOk Tryz.prog ⟨ynO,68,yzr⟩ yij:=(yKv).loop (sg:=yvU) yaN yvh (by decide) yIm ya2 yvm (by decide) (fun _=>rfl) (fun x r _ h=>h) yI0
abbrev yfj:List Par:= [.rd tM,.rd tI]
abbrev yn3:List OT:= [⟨false,tM,(.pr (.ow .fz) (.pr (.ow (.pr .fz .fz)) (.pr .fz (.ow .fz))))⟩]
def ykd (a0:dM) (a1:Int):Option (ResD yn3×MutD yfj) :=
  let r1:=yS a0
  let r2:=yam a0
  bif (!(!r2)) then
    let r3:=ya a1 0 (IntKind.i64.wrap ((a0.1.length:Int) - 1))
    bif (!(!r3)) then
      let r4:=yhC a0.2.2.2 a1
      bif r4 then
        some ((r1,()),())
      else
        bif (zj4 r1.2.2.2.length ([a1]:List Int).length 8) then
          zjw (yni (((a1,()),((),()),((),()),((IntKind.i64.wrap (((r1.2.2.2++([a1]:List Int)).length:Int) - 1)),()),()),(((),(),false,(),()),((),(),r1.2.2.1,(),()),()),(r1.1,r1.2.1,(r1.2.2.2++([a1]:List Int)),()))) (fun y4 =>
            bif (inb y4.1.2.2.2.1.1 y4.2.2.2.2.1.length) then
              some (((y4.2.2.1,y4.2.2.2.1,y4.2.1.2.1.2.2.1,(y4.2.2.2.2.1.set (y4.1.2.2.2.1.1).toNat y4.1.1.1)),()),())
            else none) (fun y4 =>
            none)
        else none
    else
      some ((r1,()),())
  else
    some ((r1,()),())
theorem yR5 (x:InD yfj):zjH ⟨ynO,68,yzr⟩ Tryz.f265.results.toList yij yfj yn3 x=ykd x.1 x.2.1:=by kernel_rfl
theorem yNg:ConOk Tryz.prog 265 ⟨yfj,yn3,fun x=>ykd x.1 x.2.1⟩:=zkh (yKw) Tryz.func265 (by kernel_rfl) (by kernel_rfl) Tryz.ntmps265.symm (by decide) (fun x r h=>(yR5 x).trans h)
def yfr (a0:dM) (a1:Int):dM:=yxr a0 a1
theorem yUF (n:Int) (m:dM) (p:List Int) (hp: ∀ x∈p,x < n): ∀ (j:Nat) (q1 q2:List Int) (x:Int) (fuel:Nat),q1.length=j→j < fuel→(∀ y∈q1,n < y)→p.length+q1.length≤1000 →
    ∃ (x':Int) (q':List Int),q1++q2=q'∧zr ya2 fuel (ylX n ((p.length+q1.length:Nat):Int) ye (m.1,m.2.1,m.2.2.1,(p++q1)++x::q2))=some (.inl (yGS n (p.length:Nat) ye (m.1,m.2.1,m.2.2.1,p++x'::q')))
  | 0,q1,q2,x,fuel+1,hj,hf,hq,hb=>by
    have:q1= []:=List.length_eq_zero_iff.1 hj
    subst this
    refine ⟨x,q2,rfl,?_⟩
    simp only [zr,ya2,ylX,ymi,List.length_nil,Nat.add_zero,List.append_nil]
    rcases List.eq_nil_or_concat p with rfl | ⟨P,y,rfl⟩
    · rfl
    · have hy:=hp y (by simp)
      simp only [List.concat_eq_append,List.length_append,List.length_cons,List.length_nil,List.append_assoc,List.cons_append,List.nil_append]at hb ⊢
      rw [zjI (show (0:Int) < ((P.length+(0+1):Nat):Int) by omega),wr (show -9223372036854775808≤((P.length+(0+1):Nat):Int) - 1 by omega) (by omega),show ((P.length+(0+1):Nat):Int) - 1=(P.length:Nat) by omega,
        zkO (by simp),zjW,y0p,zkm (show y≤n by omega)]
      rfl
  | j+1,q1,q2,x,fuel+1,hj,hf,hq,hb=>by
    rcases List.eq_nil_or_concat q1 with rfl | ⟨Q,y,rfl⟩
    · cases hj
    · rw [List.concat_eq_append]at hj hq hb ⊢
      have hQ:Q.length=j:=by simpa using hj
      have hy:=hq y (by simp)
      obtain ⟨x',q',e1,e2⟩:=yUF n m p hp j Q (y::q2) y fuel hQ (by omega) (fun z hz=>hq z (by simp [hz])) (by simp at hb; omega)
      refine ⟨x',q',by rw [← e1]; simp,?_⟩
      rw [← e2]
      have ea:((p++(Q++ [y]))++x::q2)=(p++Q)++y::x::q2:=by simp
      have el:p.length+(Q++ [y]).length=(p++Q).length+1:=by simp; omega
      have el2:p.length+Q.length=(p++Q).length:=by simp
      have hb2:(p++Q).length≤1000:=by simp at hb ⊢; omega
      rw [ea,el,el2]
      generalize p++Q=A at hb2
      rw [zr]
      simp only [ya2,ylX,ymi]
      have es:(A++y::x::q2).set (A.length+1) y=A++y::y::q2:=by
        have:=y0t (A++ [y]) x y q2
        simp at this ⊢
      rw [zjI (show (0:Int) < ((A.length+1:Nat):Int) by omega),wr (show -9223372036854775808≤((A.length+1:Nat):Int) - 1 by omega) (by omega),show ((A.length+1:Nat):Int) - 1=(A.length:Nat) by omega,zkO (show A.length < (A++y::x::q2).length by simp),zjW,y0p,zjI hy,
        zkO (show A.length+1 < (A++y::x::q2).length by simp),Int.toNat_natCast,es]
      rfl
theorem yP6 (a0:dM) (a1:Int) (hk:zi9 yfj (a0,a1,())):ykd a0 a1=(fun n=>some ((n,()),())) (yfr a0 a1):=by
  unfold ykd yfr yxr
  simp only [yS,yam,ydj,yhC]
  cases hm:yp a0
  · rfl
  obtain ⟨h1,h2,h3,h4,h5,h6⟩:=yao hm
  rw [ylq]at h3
  have hlen:=yFU h3.2 (lo:=0) (n:=a0.1.length) h3.1 (by omega)
  rw [wr (show -9223372036854775808≤(a0.1.length:Int) - 1 by omega) (by omega)]
  have hi:(leb 0 a1&&leb a1 ((a0.1.length:Int) - 1))=inb a1 a0.1.length:=by
    rw [Bool.eq_iff_iff,Bool.and_eq_true,zjQ,zjQ,zjP]; omega
  rw [hi]
  cases hin:inb a1 a0.1.length
  · rfl
  cases hh:a0.2.2.2.any (· ==a1)
  · have hn:a1∉a0.2.2.2:=fun h=>by
      have:=List.any_eq_false.1 hh a1 h
      simp at this
    have hsp:=yZQ h3.2 hn
    have hp: ∀ x∈a0.2.2.2.filter (fun x=>ltb x a1),x < a1:=fun x hx=>zjT.1 (List.mem_filter.1 hx).2
    have hq: ∀ x∈a0.2.2.2.filter (fun x=>ltb a1 x),a1 < x:=fun x hx=>zjT.1 (List.mem_filter.1 hx).2
    unfold yS3
    generalize a0.2.2.2.filter (fun x=>ltb x a1)=P at hsp hp
    generalize a0.2.2.2.filter (fun x=>ltb a1 x)=Q at hsp hq
    have hPQ:P.length+Q.length=a0.2.2.2.length:=by rw [hsp,List.length_append]
    obtain ⟨x',q',e1,e2⟩:=yUF a1 a0 P hp Q.length Q [] a1 18446744073709551616 rfl (by omega) hq (by omega)
    rw [List.append_nil]at e1
    subst e1
    simp only [cond_true,cond_false,Bool.not_true,Bool.not_false,Bool.and_self]
    rw [zkw.2 (show (a0.2.2.2.length+ [a1].length) * 8≤140737488355328 by simp only [List.length_cons,List.length_nil]; omega),wr (show -9223372036854775808≤((a0.2.2.2++ [a1]).length:Int) - 1 by omega) (by simp only [List.length_append,List.length_cons,List.length_nil]; omega),
      show ((a0.2.2.2++ [a1]).length:Int) - 1=((P.length+Q.length:Nat):Int) by simp only [List.length_append,List.length_cons,List.length_nil]; omega,hsp,cond_true]
    refine (congrArg (fun z=>zjw z _ _) (show yni (yGX a1 ((P.length+Q.length:Nat):Int) ye (a0.1,a0.2.1,a0.2.2.1,(P++Q)++ [a1]))=_ from e2)).trans ?_
    simp only [zkJ]
    show (bif inb (P.length:Int) (P++x'::Q).length then some (((a0.1,a0.2.1,a0.2.2.1,(P++x'::Q).set (P.length:Int).toNat a1),()),()) else none)=_
    rw [zkO (by simp),Int.toNat_natCast,y0t]; rfl
  · rfl
def yrj:Con:=⟨yfj,yn3,fun x=>(fun n=>some ((n,()),())) (yfr x.1 x.2.1)⟩
theorem yCD:ConOk Tryz.prog 265 yrj:=(yNg).mono (fun x r hk h=>(yP6 x.1 x.2.1 hk).trans h)
end
section
def yHz:Code:=(Tryz.f210.body).getD .skip
def yH2:Env:=zki TT [(105,yjZ),(109,yht),(110,yjj),(115,yvc),(121,yoj),(141,ydi),(150,yv),(182,yF9),(185,yta),(186,yF7),(199,ys7),(208,ylS),(265,yrj)] []
theorem yPc:FrOk Tryz.prog ⟨yH2,160,fun _=>none⟩ yHz:=zkp yc yd ⟨ytt,yor,yqG,yGt,yw4,ygG,yE,yYP,yEG,yYN,yED,yvA,yCD,trivial⟩
def yRq:Nat→Option Seg:=fun _=>none
abbrev yi:List Par:= [.pt tU .fz,.pt tA (.pr .fz (.pr (.pr .fz .fz) (.pr (.ow (.pr (.ow .fz) (.pr (.ow (.pr .fz .fz)) (.pr .fz (.ow .fz))))) (.pr .fz (.pr .fz (.pr .fz (.pr .fz (.pr .fz (.pr (.ow (.pr .fz .fz)) (.pr .fz (.pr .fz .fz)))))))))))]
abbrev yj:List OT:= []
def yfv (a0:dU) (a1:dA):Option (ResD yj×MutD yi) :=
  bnd (yb a0 14) fun r1 =>
  let k1:Option (ResD yj×MutD yi) :=
    bnd (yA r1.2.1 3) fun r9 =>
    bif r9.1.1 then
      bif (a1.2.2.2.1==(-1)) then
        bnd (yb r9.2.1 a1.2.1.1) fun r10 =>
        bnd (ygF a1 r10.1.1) fun r11 =>
        some ((),(r10.2.1,r11.2.1,()))
      else
        some ((),(r9.2.1,a1,()))
    else
      some ((),(r9.2.1,a1,()))
  let k2:Option (ResD yj×MutD yi) :=
    bif (inb a1.2.2.2.1 a1.2.2.1.length) then
      bif (((nth a1.2.2.1 a1.2.2.2.1 ([],[],false,[])).2).2).1 then
        bnd (yaV a1) fun r12 =>
        some ((),(r1.2.1,r12.2.1,()))
      else
        some ((),(r1.2.1,a1,()))
    else none
  let k3:Option (ResD yj×MutD yi) :=
    bif (leb 0 a1.2.2.2.1) then
      k2
    else
      some ((),(r1.2.1,a1,()))
  let k4:Option (ResD yj×MutD yi) :=
    bif (inb a1.2.2.2.1 a1.2.2.1.length) then
      bif (!((((nth a1.2.2.1 a1.2.2.2.1 ([],[],false,[])).2).2).1)) then
        bif (ltb a1.2.2.2.2.1 a1.2.1.2) then
          bnd (ycD a1) fun r13 =>
          some ((),(r1.2.1,r13.2.1,()))
        else
          some ((),(r1.2.1,a1,()))
      else
        some ((),(r1.2.1,a1,()))
    else none
  let k5:Option (ResD yj×MutD yi) :=
    bif (leb 0 a1.2.2.2.1) then
      k4
    else
      some ((),(r1.2.1,a1,()))
  let k6:Option (ResD yj×MutD yi) :=
    bnd (yA r1.2.1 3) fun r15 =>
    bif r15.1.1 then
      bnd (yb r15.2.1 a1.2.1.1) fun r16 =>
      bif (inb r16.1.1 a1.2.2.1.length) then
        bnd (yb r16.2.1 a1.2.1.2) fun r17 =>
        let r18:=yaC r17.1.1
        let r19:=yfr ((nth a1.2.2.1 r16.1.1 ([],[],false,[])).1,((nth a1.2.2.1 r16.1.1 ([],[],false,[])).2).1,(((nth a1.2.2.1 r16.1.1 ([],[],false,[])).2).2)) r18
        bif (inb r16.1.1 a1.2.2.1.length) then
          some ((),(r17.2.1,(a1.1,a1.2.1,(a1.2.2.1.set (r16.1.1).toNat r19),a1.2.2.2),()))
        else none
      else none
    else
      some ((),(r15.2.1,a1,()))
  let k7:Option (ResD yj×MutD yi) :=
    bif (a1.2.2.2.1==(-1)) then
      k6
    else
      some ((),(r1.2.1,a1,()))
  let k8:Option (ResD yj×MutD yi) :=
    bif (r1.1.1==12) then
      let r14:=ycC a1
      some ((),(r1.2.1,r14,()))
    else
      k7
  let k9:Option (ResD yj×MutD yi) :=
    bif (r1.1.1==10) then
      k5
    else
      k8
  let k10:Option (ResD yj×MutD yi) :=
    bif (r1.1.1==11) then
      k5
    else
      k8
  let k11:Option (ResD yj×MutD yi) :=
    bif (r1.1.1==10) then
      k9
    else
      k10
  let k12:Option (ResD yj×MutD yi) :=
    bif (r1.1.1==9) then
      k3
    else
      k11
  let k13:Option (ResD yj×MutD yi) :=
    bif (r1.1.1==8) then
      k1
    else
      k12
  let k14:Option (ResD yj×MutD yi) :=
    bif (r1.1.1==7) then
      bnd (ypQ a1) fun r8 =>
      some ((),(r1.2.1,r8.2.1,()))
    else
      k13
  let k15:Option (ResD yj×MutD yi) :=
    bif (r1.1.1==4) then
      bnd (yb r1.2.1 a1.2.1.2) fun r6 =>
      bnd (ycE a1 r6.1.1) fun r7 =>
      some ((),(r6.2.1,r7.2.1,()))
    else
      k14
  let k16:Option (ResD yj×MutD yi) :=
    bif (r1.1.1==5) then
      bnd (yb r1.2.1 a1.2.1.2) fun r27 =>
      bnd (ycE a1 r27.1.1) fun r28 =>
      some ((),(r27.2.1,r28.2.1,()))
    else
      k14
  let k17:Option (ResD yj×MutD yi) :=
    bif (r1.1.1==6) then
      bnd (yb r1.2.1 a1.2.1.2) fun r48 =>
      bnd (ycE a1 r48.1.1) fun r49 =>
      some ((),(r48.2.1,r49.2.1,()))
    else
      k14
  let k18:Option (ResD yj×MutD yi) :=
    bif (r1.1.1==5) then
      k16
    else
      k17
  let k19:Option (ResD yj×MutD yi) :=
    bif (r1.1.1==4) then
      k15
    else
      k18
  bif (r1.1.1==0) then
    bif (r1.1.1==0) then
      let r2:=yo a1.2.1
      bnd (yb r1.2.1 r2) fun r3 =>
      bnd (yae r3.2.1) fun r4 =>
      bnd (ye6 a1 r3.1.1 r4.1.1) fun r5 =>
      some ((),(r4.2.1,r5.2.1,()))
    else
      k19
  else
    bif (r1.1.1==1) then
      bif (r1.1.1==1) then
        let r69:=yo a1.2.1
        bnd (yb r1.2.1 r69) fun r70 =>
        bnd (yae r70.2.1) fun r71 =>
        bnd (ye6 a1 r70.1.1 r71.1.1) fun r72 =>
        some ((),(r71.2.1,r72.2.1,()))
      else
        k19
    else
      bif (r1.1.1==2) then
        bif (r1.1.1==2) then
          let r136:=yo a1.2.1
          bnd (yb r1.2.1 r136) fun r137 =>
          bnd (yae r137.2.1) fun r138 =>
          bnd (ye6 a1 r137.1.1 r138.1.1) fun r139 =>
          some ((),(r138.2.1,r139.2.1,()))
        else
          k19
      else
        bif (r1.1.1==3) then
          let r203:=yo a1.2.1
          bnd (yb r1.2.1 r203) fun r204 =>
          bnd (yae r204.2.1) fun r205 =>
          bnd (ye6 a1 r204.1.1 r205.1.1) fun r206 =>
          some ((),(r205.2.1,r206.2.1,()))
        else
          k19
theorem yX1 (x:InD yi):zjH ⟨yH2,160,yRq⟩ Tryz.f210.results.toList yHz yi yj x=yfv x.1 x.2.1:=by kernel_rfl
theorem yT0:ConOk Tryz.prog 210 ⟨yi,yj,fun x=>yfv x.1 x.2.1⟩:=zkh (yPc) Tryz.func210 (by kernel_rfl) (by kernel_rfl) Tryz.ntmps210.symm (by decide) (fun x r h=>(yX1 x).trans h)
def yEo:Con:=⟨yi,yj,fun x=>yfv x.1 x.2.1⟩
theorem yWP:ConOk Tryz.prog 210 yEo:=yT0
def yxC (k:Int) (z:Option (ResD yj×MutD yi)):Prop:= ∃ (u':dU) (a':dA),z=some ((),(u',a',()))∧yG u'∧Wk (k+8) a'
def y0w (u:dU) (a:dA):Option (ResD yj×MutD yi) :=
  bnd (yb u (yo a.2.1)) fun r3=>bnd (yae r3.2.1) fun r4=>bnd (ye6 a r3.1.1 r4.1.1) fun r5=>some ((),(r4.2.1,r5.2.1,()))
def yXq (u:dU) (a:dA):Option (ResD yj×MutD yi) :=
  bnd (yb u a.2.1.2) fun r6=>bnd (ycE a r6.1.1) fun r7=>some ((),(r6.2.1,r7.2.1,()))
def yZV (u:dU) (a:dA):Option (ResD yj×MutD yi) :=
  bnd (yA u 3) fun r9=>bif r9.1.1 then (bif (a.2.2.2.1==(-1)) then (bnd (yb r9.2.1 a.2.1.1) fun r10=>bnd (ygF a r10.1.1) fun r11=>some ((),(r10.2.1,r11.2.1,()))) else some ((),(r9.2.1,a,()))) else some ((),(r9.2.1,a,()))
def yXr (u:dU) (a:dA):Option (ResD yj×MutD yi) :=
  bif leb 0 a.2.2.2.1 then (bif inb a.2.2.2.1 a.2.2.1.length then (bif (nth a.2.2.1 a.2.2.2.1 ye).2.2.1 then (bnd (yaV a) fun r12=>some ((),(u,r12.2.1,()))) else some ((),(u,a,()))) else none) else some ((),(u,a,()))
def yZW (u:dU) (a:dA):Option (ResD yj×MutD yi) :=
  bif leb 0 a.2.2.2.1 then (bif inb a.2.2.2.1 a.2.2.1.length then (bif !(nth a.2.2.1 a.2.2.2.1 ye).2.2.1 then (bif ltb a.2.2.2.2.1 a.2.1.2 then (bnd (ycD a) fun r13=>some ((),(u,r13.2.1,()))) else some ((),(u,a,()))) else some ((),(u,a,()))) else none) else some ((),(u,a,()))
def yLr (u:dU) (a:dA):Option (ResD yj×MutD yi) :=
  bif (a.2.2.2.1==(-1)) then (bnd (yA u 3) fun r15=>bif r15.1.1 then (bnd (yb r15.2.1 a.2.1.1) fun r16=>bif inb r16.1.1 a.2.2.1.length then (bnd (yb r16.2.1 a.2.1.2) fun r17 =>
    bif inb r16.1.1 a.2.2.1.length then some ((),(r17.2.1,ync a r16.1.1 (yxr (nth a.2.2.1 r16.1.1 ye) (ycA r17.1.1)),())) else none) else none) else some ((),(r15.2.1,a,()))) else some ((),(u,a,()))
theorem yHb {k:Int} {u:dU} {a:dA} (h:Wk k a) (hu:yG u):yxC k (y0w u a):=by
  have hg:=yk.1 h.1.1
  have hd:=yxV h.1.2.2.1 h.1.1
  obtain ⟨b,u1,e1,q1,d1⟩:=yw u (yo a.2.1) hu
  obtain ⟨x,u2,e2,q2,d2⟩:=y0j u1 d1
  have hx:isW x=true:=by rw [ydj]at q2; exact q2
  have hbl:0 < yo a.2.1:=by
    rw [yGz h.1.1]
    exact Int.mul_pos (by omega) (by omega)
  have hb:ylP a.2.1 b=true:=by
    have:=q1.2.1 hbl
    unfold ylP
    rw [zk0 q1.1,zk0 (show b≤yo a.2.1 - 1 by omega)]; rfl
  unfold y0w
  rw [e1,zky,e2,zky,yYS a b x (by unfold ypR; rw [yZX h,hb]; exact decide_eq_true (show a.2.2.2.2.2.2.2.2.1.length≤1000 by omega)),zky]
  exact ⟨_,_,rfl,d2,yab (y2s h hb hx) (by omega)⟩
theorem yHa {k:Int} {u:dU} {a:dA} (h:Wk k a) (hk:k+8≤60000) (hu:yG u):yxC k (yXq u a):=by
  have hd:=yxV h.1.2.2.1 h.1.1
  obtain ⟨s,u1,e1,q1,d1⟩:=yw u a.2.1.2 hu
  unfold yXq
  rw [e1,zky,yEJ a s (decide_eq_true (show a.2.2.2.2.2.2.2.2.1.length≤1000 by omega)),zky]
  exact ⟨_,_,rfl,d1,yab (yZZ s h (by omega)) (by omega)⟩
theorem y1C {k:Int} {u:dU} {a:dA} (h:Wk k a) (hk:k+8≤60000) (hu:yG u):yxC k (bnd (ypQ a) fun r8=>some ((),(u,r8.2.1,()))):=by
  have hd:=yxV h.1.2.2.1 h.1.1
  rw [yYQ a (decide_eq_true (show a.2.2.2.2.2.2.2.2.1.length≤1000 by omega)),zky]
  exact ⟨_,_,rfl,hu,y2n h hk⟩
theorem y1d {k:Int} {u:dU} {a:dA} (h:Wk k a) (hk:k+8≤60000) (hu:yG u):yxC k (yZV u a):=by
  have hg:=yk.1 h.1.1
  have hl:=h.2.1.1.2
  obtain ⟨r,u1,e1,d1⟩:=yAP u 3 hu
  unfold yZV
  rw [e1,zky]
  cases r
  · exact ⟨_,_,rfl,d1,yab h (by omega)⟩
  · cases h1:(a.2.2.2.1==(-1))
    · exact ⟨_,_,rfl,d1,yab h (by omega)⟩
    · obtain ⟨m,u2,e2,q2,d2⟩:=yw u1 a.2.1.1 d1
      have hm:inb m a.2.2.1.length=true:=zjP.2 ⟨q2.1,by have:=q2.2.1 (by omega); omega⟩
      simp only [cond_true]
      rw [e2,zky,yEH a m hm,zky]
      exact ⟨_,_,rfl,d2,yab (y13 h (beq_iff_eq.1 h1) hm (by omega)) (by omega)⟩
theorem y0L {k:Int} {u:dU} {a:dA} (h:Wk k a) (hk:k+8≤60000) (hu:yG u):yxC k (yXr u a):=by
  have hl:=h.2.1.1.2
  have hc:=h.1.2.2.2.1
  unfold yXr
  cases h0:leb 0 a.2.2.2.1
  · exact ⟨_,_,rfl,hu,yab h (by omega)⟩
  · have hi:inb a.2.2.2.1 a.2.2.1.length=true:=zjP.2 ⟨zjQ.1 h0,by omega⟩
    rw [hi]
    cases (nth a.2.2.1 a.2.2.2.1 ye).2.2.1
    · exact ⟨_,_,rfl,hu,yab h (by omega)⟩
    · simp only [cond_true]
      rw [ytv a (by unfold ydp; rw [h.1.1,hi]; rfl),zky]
      exact ⟨_,_,rfl,hu,yab (y1F h hi (by omega)) (by omega)⟩
theorem yXs {k:Int} {u:dU} {a:dA} (h:Wk k a) (hu:yG u):yxC k (yZW u a):=by
  have hl:=h.2.1.1.2
  have hc:=h.1.2.2.2.1
  unfold yZW
  cases h0:leb 0 a.2.2.2.1
  · exact ⟨_,_,rfl,hu,yab h (by omega)⟩
  · have h0':=zjQ.1 h0
    have hi:inb a.2.2.2.1 a.2.2.1.length=true:=zjP.2 ⟨h0',by omega⟩
    rw [hi]
    cases (nth a.2.2.1 a.2.2.2.1 ye).2.2.1
    · cases hb:ltb a.2.2.2.2.1 a.2.1.2
      · exact ⟨_,_,rfl,hu,yab h (by omega)⟩
      · simp only [cond_true,Bool.not_false]
        rw [yot a (by unfold ycF; rw [h.1.1,hi,zjP.2 (show 0≤a.2.2.2.1∧a.2.2.2.1 < a.2.1.1.toNat by omega)]; rfl),zky]
        exact ⟨_,_,rfl,hu,yab (y16 h hi (zjT.1 hb)) (by omega)⟩
    · exact ⟨_,_,rfl,hu,yab h (by omega)⟩
theorem y0M {k:Int} {u:dU} {a:dA} (h:Wk k a) (hu:yG u):yxC k (yLr u a):=by
  have hg:=yk.1 h.1.1
  have hl:=h.2.1.1.2
  unfold yLr
  cases (a.2.2.2.1==(-1))
  · exact ⟨_,_,rfl,hu,yab h (by omega)⟩
  · obtain ⟨r,u1,e1,d1⟩:=yAP u 3 hu
    simp only [cond_true]
    rw [e1,zky]
    cases r
    · exact ⟨_,_,rfl,d1,yab h (by omega)⟩
    · obtain ⟨m,u2,e2,q2,d2⟩:=yw u1 a.2.1.1 d1
      have hm:inb m a.2.2.1.length=true:=zjP.2 ⟨q2.1,by have:=q2.2.1 (by omega); omega⟩
      obtain ⟨s,u3,e3,q3,d3⟩:=yw u2 a.2.1.2 d2
      simp only [cond_true]
      rw [e2,zky]
      simp only [hm,cond_true]
      rw [e3,zky]
      exact ⟨_,_,rfl,d3,yab (y1G h hm) (by omega)⟩
theorem y1T {k:Int} (u:dU) (a:dA) (hu:yG u) (h:Wk k a) (hk:k+8≤60000):yxC k (yfv u a):=by
  obtain ⟨r,u1,e1,q1,d1⟩:=yw u 14 hu
  have hr:=q1.2.1 (by omega)
  have h0:=q1.1
  unfold yfv
  rw [e1,zky]
  have hc:(r=0∨r=1∨r=2∨r=3)∨(r=4∨r=5∨r=6)∨r=7∨r=8∨r=9∨(r=10∨r=11)∨r=12∨r=13:=by omega
  rcases hc with (rfl | rfl | rfl | rfl) | (rfl | rfl | rfl) | rfl | rfl | rfl | (rfl | rfl) | rfl | rfl
  · exact yHb h d1
  · exact yHb h d1
  · exact yHb h d1
  · exact yHb h d1
  · exact yHa h hk d1
  · exact yHa h hk d1
  · exact yHa h hk d1
  · exact y1C h hk d1
  · exact y1d h hk d1
  · exact y0L h hk d1
  · exact yXs h d1
  · exact yXs h d1
  · refine ⟨u1,yl a,?_,d1,yab (yZY h (by omega)) (by omega)⟩
    rw [← yy4]; rfl
  · have:=y0M h d1
    unfold yLr at this
    simp only [← yet]at this
    exact this
end
end
end Go.Tf
