/- Functions of the program, and what they come to. -/
import Derived.Test.YtgmadfpnljibhaaGreatScrubsF9
namespace Go.Tf
noncomputable section
open Go.Proofs
set_option synthInstance.maxHeartbeats 400000
set_option synthInstance.maxSize 10000
set_option linter.unusedVariables false
set_option linter.unusedSimpArgs false
set_option maxRecDepth 100000
section
def yCZ:Code:=(Tryz.f147.body).getD .skip
def yDI:Env:=zki TT [(208,yrx),(229,yD3),(230,yBX)] []
theorem yJO:FrOk Tryz.prog ⟨yDI,54,fun _=>none⟩ yCZ:=zkp yc yd ⟨yCo,yWE,yUy,trivial⟩
def yLa:Nat→Option Seg:=fun _=>none
abbrev ydt:List Par:= [.pt tA (.pr .fz (.pr (.pr .fz .fz) (.pr (.ow (.pr (.ow .fz) (.pr (.ow (.pr .fz .fz)) (.pr .fz (.ow .fz))))) (.pr .fz (.pr .fz (.pr .fz (.pr .fz (.pr .fz (.pr (.ow (.pr .fz .fz)) (.pr .fz (.pr .fz .fz))))))))))),.rd tI,.rd tL]
abbrev yjG:List OT:= [⟨false,tI,.fz⟩]
def ykR (a0:dA) (a1:Int) (a2:List Int):Option (ResD yjG×MutD ydt) :=
  bif (leb 4 (IntKind.i64.wrap (a0.2.2.2.2.2.1 - a0.2.2.2.2.2.2.1))) then
    let r1:=yfG a0
    bif r1.2.2.2.2.2.2.2.2.2.2.1 then
      some ((6,()),(r1,()))
    else
      bif (zj4 ([]:List Int).length a2.length 8) then
        let r2:=yj2 r1 (r1.2.2.2.2.2.1,a1,(([]:List Int)++a2))
        bif r2.2.2.2.2.2.2.2.2.2.2.1 then
          some ((6,()),(r2,()))
        else
          bnd (ygY (r2.1,r2.2.1,r2.2.2.1,r2.2.2.2.1,r2.2.2.2.2.1,(IntKind.i64.wrap (r2.2.2.2.2.2.1+1)),r2.2.2.2.2.2.2) a1 a2) fun r3 =>
          bif r3.2.1.2.2.2.2.2.2.2.2.2.2.1 then
            some ((6,()),(r3.2.1,()))
          else
            some ((0,()),(r3.2.1,()))
      else none
  else
    bif a0.2.2.2.2.2.2.2.2.2.2.1 then
      some ((6,()),(a0,()))
    else
      bif (zj4 ([]:List Int).length a2.length 8) then
        let r4:=yj2 a0 (a0.2.2.2.2.2.1,a1,(([]:List Int)++a2))
        bif r4.2.2.2.2.2.2.2.2.2.2.1 then
          some ((6,()),(r4,()))
        else
          bnd (ygY (r4.1,r4.2.1,r4.2.2.1,r4.2.2.2.1,r4.2.2.2.2.1,(IntKind.i64.wrap (r4.2.2.2.2.2.1+1)),r4.2.2.2.2.2.2) a1 a2) fun r5 =>
          bif r5.2.1.2.2.2.2.2.2.2.2.2.2.1 then
            some ((6,()),(r5.2.1,()))
          else
            some ((0,()),(r5.2.1,()))
      else none
theorem ySY (x:InD ydt):zjH ⟨yDI,54,yLa⟩ Tryz.f147.results.toList yCZ ydt yjG x=ykR x.1 x.2.1 x.2.2.1:=by kernel_rfl
theorem yND:ConOk Tryz.prog 147 ⟨ydt,yjG,fun x=>ykR x.1 x.2.1 x.2.2.1⟩:=zkh (yJO) Tryz.func147 (by kernel_rfl) (by kernel_rfl) Tryz.ntmps147.symm (by decide) (fun x r h=>(ySY x).trans h)
def yj3 (a0:dA) (a1:Int) (a2:List Int):Int×dA:=ybB a0 a1 a2
def ykc (a0:dA) (a1:Int) (a2:List Int):Bool:=yO a0.2.1 a1&&((a2.length:Int)==a0.2.1.1 - 1&&(a0.2.2.1.length:Int)==a0.2.1.1)
theorem yQP (a0:dA) (a1:Int) (a2:List Int) (hk:zi9 ydt (a0,a1,a2,())) (hq:ykc a0 a1 a2=true):ykR a0 a1 a2=(fun n=>some ((n.1,()),(n.2,()))) (yj3 a0 a1 a2):=by
  have hq':=hq
  simp only [ykc,Bool.and_eq_true,beq_iff_eq]at hq
  have hg:=yg.1 (yao.1 hq.1).1
  have hap:zj4 ([]:List Int).length a2.length 8=true:=zkw.2 (by simp only [List.length_nil]; omega)
  have key: ∀ b:dA,b.2.1=a0.2.1→b.2.2.1.length=a0.2.2.1.length→ygY (yeF (ybQ b (b.2.2.2.2.2.1,a1,a2))) a1 a2=some ((),(yaN (yeF (ybQ b (b.2.2.2.2.2.1,a1,a2))) a1 a2,())):=fun b h1 h2=>yUB _ _ _ (by
    unfold ylR
    rw [show (yeF (ybQ b (b.2.2.2.2.2.1,a1,a2))).2.1=a0.2.1 from (yaF (yim _ _)).trans h1,show (yeF (ybQ b (b.2.2.2.2.2.1,a1,a2))).2.2.1.length=a0.2.2.1.length from (y0q _ _).trans h2]
    exact hq')
  unfold ykR yj3 ybB yx
  simp only [yGo,yj2,List.nil_append,hap,cond_true]
  cases leb 4 (IntKind.i64.wrap (a0.2.2.2.2.2.1 - a0.2.2.2.2.2.2.1))
  · have hd:=key a0 rfl rfl
    simp only [cond_false]
    generalize ybQ a0 (a0.2.2.2.2.2.1,a1,a2)=R at hd ⊢
    generalize yaN (yeF R) a1 a2=Q at hd ⊢
    unfold yeF at hd
    simp only [cond_false,hd,zky]
    unfold downA
    cases a0.2.2.2.2.2.2.2.2.2.2.1
    · cases R.2.2.2.2.2.2.2.2.2.2.1
      · cases Q.2.2.2.2.2.2.2.2.2.2.1<;>rfl
      · rfl
    · rfl
  · have hd:=key (checkA a0) (yUO a0) (yvO a0)
    simp only [cond_true]
    generalize checkA a0=C at hd ⊢
    generalize ybQ C (C.2.2.2.2.2.1,a1,a2)=R at hd ⊢
    generalize yaN (yeF R) a1 a2=Q at hd ⊢
    unfold yeF at hd
    simp only [cond_true,hd,zky]
    unfold downA
    cases C.2.2.2.2.2.2.2.2.2.2.1
    · cases R.2.2.2.2.2.2.2.2.2.2.1
      · cases Q.2.2.2.2.2.2.2.2.2.2.1<;>rfl
      · rfl
    · rfl
def yoY (a0:dA) (a1:Int) (a2:List Int):Option (ResD yjG×MutD ydt):=bif ykc a0 a1 a2 then (fun n=>some ((n.1,()),(n.2,()))) (yj3 a0 a1 a2) else none
theorem yRN (a0:dA) (a1:Int) (a2:List Int) (h:ykc a0 a1 a2=true):yoY a0 a1 a2=(fun n=>some ((n.1,()),(n.2,()))) (yj3 a0 a1 a2):=by unfold yoY; rw [h]; rfl
def yy1:Con:=⟨ydt,yjG,fun x=>yoY x.1 x.2.1 x.2.2.1⟩
theorem yRI:ConOk Tryz.prog 147 yy1:=(yND).mono (fun x r hk h=>zkW h (fun hq=>yQP x.1 x.2.1 x.2.2.1 hk hq))
end
section
def yC0:Code:=(Tryz.f185.body).getD .skip
def yDJ:Env:=zki TT [(146,yBW),(147,yy1),(243,ywx)] [(36928,(.pr .fz .fz))]
theorem yJP:FrOk Tryz.prog ⟨yDJ,63,fun _=>none⟩ yC0:=zkp yc yd ⟨yUx,yRI,yIw,trivial⟩
def yLb:Nat→Option Seg:=fun _=>none
abbrev ydu:List Par:= [.pt tA (.pr .fz (.pr (.pr .fz .fz) (.pr (.ow (.pr (.ow .fz) (.pr (.ow (.pr .fz .fz)) (.pr .fz (.ow .fz))))) (.pr .fz (.pr .fz (.pr .fz (.pr .fz (.pr .fz (.pr (.ow (.pr .fz .fz)) (.pr .fz (.pr .fz .fz))))))))))),.rd tI]
abbrev yjH:List OT:= [⟨false,tI,.fz⟩]
def ykS (a0:dA) (a1:Int):Option (ResD yjH×MutD ydu) :=
  let r1:=yil a0 a1
  bif (ltb r1 0) then
    some ((0,()),(a0,()))
  else
    bif (inb r1 a0.2.2.2.2.2.2.2.2.1.length) then
      let r2:=yT a0 a1 ((nth a0.2.2.2.2.2.2.2.2.1 r1 (0,[])).2)
      bif (r2 !=0) then
        some ((r2,()),(a0,()))
      else
        bif (inb r1 a0.2.2.2.2.2.2.2.2.1.length) then
          bnd (yoY a0 a1 ((nth a0.2.2.2.2.2.2.2.2.1 r1 (0,[])).2)) fun r3 =>
          bif (r3.1.1==0) then
            bif (zjG 0 r1 r3.2.1.2.2.2.2.2.2.2.2.1.length) then
              bif (zj4 ([]:List dW).length ((r3.2.1.2.2.2.2.2.2.2.2.1.drop (0:Int).toNat).take (r1 - 0).toNat).length 32) then
                bif (zjG (IntKind.i64.wrap (r1+1)) (r3.2.1.2.2.2.2.2.2.2.2.1.length:Int) r3.2.1.2.2.2.2.2.2.2.2.1.length) then
                  bif (zj4 (([]:List dW)++((r3.2.1.2.2.2.2.2.2.2.2.1.drop (0:Int).toNat).take (r1 - 0).toNat)).length ((r3.2.1.2.2.2.2.2.2.2.2.1.drop ((IntKind.i64.wrap (r1+1))).toNat).take ((r3.2.1.2.2.2.2.2.2.2.2.1.length:Int) - (IntKind.i64.wrap (r1+1))).toNat).length 32) then
                    some ((r3.1.1,()),((r3.2.1.1,r3.2.1.2.1,r3.2.1.2.2.1,r3.2.1.2.2.2.1,r3.2.1.2.2.2.2.1,r3.2.1.2.2.2.2.2.1,r3.2.1.2.2.2.2.2.2.1,r3.2.1.2.2.2.2.2.2.2.1,((([]:List dW)++((r3.2.1.2.2.2.2.2.2.2.2.1.drop (0:Int).toNat).take (r1 - 0).toNat))++((r3.2.1.2.2.2.2.2.2.2.2.1.drop ((IntKind.i64.wrap (r1+1))).toNat).take ((r3.2.1.2.2.2.2.2.2.2.2.1.length:Int) - (IntKind.i64.wrap (r1+1))).toNat)),r3.2.1.2.2.2.2.2.2.2.2.2),()))
                  else none
                else none
              else none
            else none
          else
            some ((r3.1.1,()),(r3.2.1,()))
        else none
    else none
theorem ySZ (x:InD ydu):zjH ⟨yDJ,63,yLb⟩ Tryz.f185.results.toList yC0 ydu yjH x=ykS x.1 x.2.1:=by kernel_rfl
theorem yNE:ConOk Tryz.prog 185 ⟨ydu,yjH,fun x=>ykS x.1 x.2.1⟩:=zkh (yJP) Tryz.func185 (by kernel_rfl) (by kernel_rfl) Tryz.ntmps185.symm (by decide) (fun x r h=>(ySZ x).trans h)
def yj4 (a0:dA) (a1:Int):Int×dA:=flushE a0 a1
def yvf (a0:dA) (a1:Int):Bool:=decide (a0.2.2.2.2.2.2.2.2.1.length≤1000)
theorem yQQ (a0:dA) (a1:Int) (hk:zi9 ydu (a0,a1,())) (hq:yvf a0 a1=true):ykS a0 a1=(fun n=>some ((n.1,()),(n.2,()))) (yj4 a0 a1):=by
  have hq:=of_decide_eq_true hq
  unfold ykS yj4 flushE
  simp only [yil]
  cases h0:ltb (yw a0.2.2.2.2.2.2.2.2.1 a1) 0
  · have h1:=zkU h0
    have hi:inb (yw a0.2.2.2.2.2.2.2.2.1 a1) a0.2.2.2.2.2.2.2.2.1.length=true:=(yrz (d:=((0:Int),([]:List Int))) (zk0 h1)).1
    simp only [hi,cond_true,cond_false]
    generalize hD:(nth a0.2.2.2.2.2.2.2.2.1 (yw a0.2.2.2.2.2.2.2.2.1 a1) (0,[])).2=D
    cases hc:(yT a0 a1 D !=0)
    · obtain ⟨ha,hl,hw,hd,hs,hb,_⟩:=yBE (bne_eq_false_iff_eq.1 hc)
      rw [yRN a0 a1 D (by unfold ykc; rw [hs,hl,yvI ha]; simp)]
      simp only [zky,cond_false,yj3,yYu]
      have hk:=zjP.1 hi
      cases hr:((ybB a0 a1 D).1==0)
      · rfl
      · generalize yw a0.2.2.2.2.2.2.2.2.1 a1=K at h1 hk
        rw [wr (show -9223372036854775808≤K+1 by omega) (by omega),zko.2 (show (0:Int)≤0∧0≤K∧K≤(a0.2.2.2.2.2.2.2.2.1.length:Int) by omega),zko.2 (show 0≤K+1∧K+1≤(a0.2.2.2.2.2.2.2.2.1.length:Int)∧(a0.2.2.2.2.2.2.2.2.1.length:Int)≤(a0.2.2.2.2.2.2.2.2.1.length:Int) by omega),
          zkw.2 (by rw [List.length_take,List.length_drop,List.length_nil]; omega),zkw.2 (by rw [List.length_append,List.length_take,List.length_take,List.length_drop,List.length_drop,List.length_nil]; omega),yY5 h1 hk.2]
        rw [beq_iff_eq.1 hr]; rfl
    · rfl
  · rfl
def yb5 (a0:dA) (a1:Int):Option (ResD yjH×MutD ydu):=bif yvf a0 a1 then (fun n=>some ((n.1,()),(n.2,()))) (yj4 a0 a1) else none
theorem yCr (a0:dA) (a1:Int) (h:yvf a0 a1=true):yb5 a0 a1=(fun n=>some ((n.1,()),(n.2,()))) (yj4 a0 a1):=by unfold yb5; rw [h]; rfl
def yry:Con:=⟨ydu,yjH,fun x=>yb5 x.1 x.2.1⟩
theorem yCp:ConOk Tryz.prog 185 yry:=(yNE).mono (fun x r hk h=>zkW h (fun hq=>yQQ x.1 x.2.1 hk hq))
end
section
def ynt:Code:=(Tryz.f186.body).getD .skip
def ysI:Env:=zki TT [(185,yry)] []
theorem yP3:FrOk Tryz.prog ⟨ysI,22,fun _=>none⟩ ynt:=zkp yc yd ⟨yCp,trivial⟩
def yDs:Nat→Option Seg:=fun _=>none
def ydz:Shape:=⟨[(0,false,[.ptr 1000000000 0])],[(1000000000,[.int .i64,.int .i64,.int .i64,.at 800000000,.int .i64,.int .i64,.int .i64,.int .i64,.int .i64,.at 800000001,.int .i64,.bool,.bool])],[(800000000,tM,(.pr (.ow .fz) (.pr (.ow (.pr .fz .fz)) (.pr .fz (.ow .fz))))),(800000001,tW,(.pr .fz .fz))]⟩
def yjz:Shape:=⟨[(0,false,[.ptr 1000000000 0])],[(1000000000,[.int .i64,.int .i64,.int .i64,.at 800000000,.int .i64,.int .i64,.int .i64,.int .i64,.int .i64,.at 800000001,.int .i64,.bool,.bool])],[(800000000,tM,(.pr (.ow .fz) (.pr (.ow (.pr .fz .fz)) (.pr .fz (.ow .fz))))),(800000001,tW,(.pr .fz .fz))]⟩
def yjt:Shape:=⟨[],[(1000000000,[.int .i64,.int .i64,.int .i64,.at 800000000,.int .i64,.int .i64,.int .i64,.int .i64,.int .i64,.at 800000001,.int .i64,.bool,.bool])],[(800000000,tM,(.pr (.ow .fz) (.pr (.ow (.pr .fz .fz)) (.pr .fz (.ow .fz))))),(800000001,tW,(.pr .fz .fz))]⟩
def yjK:Shape:=⟨[(2,false,[.int .i64])],[(1000000000,[.int .i64,.int .i64,.int .i64,.at 800000000,.int .i64,.int .i64,.int .i64,.int .i64,.int .i64,.at 800000001,.int .i64,.bool,.bool])],[(800000000,tM,(.pr (.ow .fz) (.pr (.ow (.pr .fz .fz)) (.pr .fz (.ow .fz))))),(800000001,tW,(.pr .fz .fz))]⟩
abbrev ytO (v0:dA):(ydz).X:=((((),()),()),((v0.1,v0.2.1.1,v0.2.1.2,(),v0.2.2.2.1,v0.2.2.2.2.1,v0.2.2.2.2.2.1,v0.2.2.2.2.2.2.1,v0.2.2.2.2.2.2.2.1,(),v0.2.2.2.2.2.2.2.2.2.1,v0.2.2.2.2.2.2.2.2.2.2.1,v0.2.2.2.2.2.2.2.2.2.2.2,()),()),(v0.2.2.1,v0.2.2.2.2.2.2.2.2.1,()))
abbrev yQo (v0:dA):(yjz).X:=((((),()),()),((v0.1,v0.2.1.1,v0.2.1.2,(),v0.2.2.2.1,v0.2.2.2.2.1,v0.2.2.2.2.2.1,v0.2.2.2.2.2.2.1,v0.2.2.2.2.2.2.2.1,(),v0.2.2.2.2.2.2.2.2.2.1,v0.2.2.2.2.2.2.2.2.2.2.1,v0.2.2.2.2.2.2.2.2.2.2.2,()),()),(v0.2.2.1,v0.2.2.2.2.2.2.2.2.1,()))
abbrev yQj (v0:dA):(yjt).X:=((),((v0.1,v0.2.1.1,v0.2.1.2,(),v0.2.2.2.1,v0.2.2.2.2.1,v0.2.2.2.2.2.1,v0.2.2.2.2.2.2.1,v0.2.2.2.2.2.2.2.1,(),v0.2.2.2.2.2.2.2.2.2.1,v0.2.2.2.2.2.2.2.2.2.2.1,v0.2.2.2.2.2.2.2.2.2.2.2,()),()),(v0.2.2.1,v0.2.2.2.2.2.2.2.2.1,()))
abbrev yQs (v0:Int) (v1:dA):(yjK).X:=(((v0,()),()),((v1.1,v1.2.1.1,v1.2.1.2,(),v1.2.2.2.1,v1.2.2.2.2.1,v1.2.2.2.2.2.1,v1.2.2.2.2.2.2.1,v1.2.2.2.2.2.2.2.1,(),v1.2.2.2.2.2.2.2.2.2.1,v1.2.2.2.2.2.2.2.2.2.2.1,v1.2.2.2.2.2.2.2.2.2.2.2,()),()),(v1.2.2.1,v1.2.2.2.2.2.2.2.2.1,()))
def yuj (v0:Int) (v1:Int) (v2:Int) (v3:Int) (v4:Int) (v5:Int) (v6:Int) (v7:Int) (v8:Int) (v9:Bool) (v10:Bool) (v11:List dM) (v12:List dW):Option ((ydz).X ⊕ ((yjt).X ⊕ (yjK).X)) :=
  bif (ltb 0 (v12.length:Int)) then
    bif (inb 0 v12.length) then
      bnd (yb5 (v0,(v1,v2),v11,v3,v4,v5,v6,v7,v12,v8,v9,v10) ((nth v12 0 (0,[])).1)) fun r2 =>
      bif (r2.1.1 !=0) then
        some (.inr (.inr (((r2.1.1,()),()),((r2.2.1.1,r2.2.1.2.1.1,r2.2.1.2.1.2,(),r2.2.1.2.2.2.1,r2.2.1.2.2.2.2.1,r2.2.1.2.2.2.2.2.1,r2.2.1.2.2.2.2.2.2.1,r2.2.1.2.2.2.2.2.2.2.1,(),r2.2.1.2.2.2.2.2.2.2.2.2.1,r2.2.1.2.2.2.2.2.2.2.2.2.2.1,r2.2.1.2.2.2.2.2.2.2.2.2.2.2,()),()),(r2.2.1.2.2.1,r2.2.1.2.2.2.2.2.2.2.2.1,()))))
      else
        some (.inl ((((),()),()),((r2.2.1.1,r2.2.1.2.1.1,r2.2.1.2.1.2,(),r2.2.1.2.2.2.1,r2.2.1.2.2.2.2.1,r2.2.1.2.2.2.2.2.1,r2.2.1.2.2.2.2.2.2.1,r2.2.1.2.2.2.2.2.2.2.1,(),r2.2.1.2.2.2.2.2.2.2.2.2.1,r2.2.1.2.2.2.2.2.2.2.2.2.2.1,r2.2.1.2.2.2.2.2.2.2.2.2.2.2,()),()),(r2.2.1.2.2.1,r2.2.1.2.2.2.2.2.2.2.2.1,())))
    else none
  else
    some (.inr (.inl ((),((v0,v1,v2,(),v3,v4,v5,v6,v7,(),v8,v9,v10,()),()),(v11,v12,()))))
def ydK (x:(ydz).X):=yuj x.2.1.1.1 x.2.1.1.2.1 x.2.1.1.2.2.1 x.2.1.1.2.2.2.2.1 x.2.1.1.2.2.2.2.2.1 x.2.1.1.2.2.2.2.2.2.1 x.2.1.1.2.2.2.2.2.2.2.1 x.2.1.1.2.2.2.2.2.2.2.2.1 x.2.1.1.2.2.2.2.2.2.2.2.2.2.1 x.2.1.1.2.2.2.2.2.2.2.2.2.2.2.1 x.2.1.1.2.2.2.2.2.2.2.2.2.2.2.2.1 x.2.2.1 x.2.2.2.1
def yB5 (x:(yjz).X):(ydz).X:=((((),()),()),((x.2.1.1.1,x.2.1.1.2.1,x.2.1.1.2.2.1,(),x.2.1.1.2.2.2.2.1,x.2.1.1.2.2.2.2.2.1,x.2.1.1.2.2.2.2.2.2.1,x.2.1.1.2.2.2.2.2.2.2.1,x.2.1.1.2.2.2.2.2.2.2.2.1,(),x.2.1.1.2.2.2.2.2.2.2.2.2.2.1,x.2.1.1.2.2.2.2.2.2.2.2.2.2.2.1,x.2.1.1.2.2.2.2.2.2.2.2.2.2.2.2.1,()),()),(x.2.2.1,x.2.2.2.1,()))
def yDS:Code:=(zdI ynt 64 24).getD .skip
theorem ySu:zdI ynt 64 6=some (.block 0 (.loop yDS)):=by kernel_rfl
theorem yUG (x:(ydz).X):zg7 ⟨ysI,22,yDs⟩ 0 yDS 24 ydz yjt yjK x=ydK x:=by kernel_rfl
def yCd (x:(yjz).X):Nat:=(fun (u0:Int) (u1:Int) (u2:Int) (u3:Int) (u4:Int) (u5:Int) (u6:Int) (u7:Int) (u8:Int) (u9:Bool) (u10:Bool) (u11:List dM) (u12:List dW)=>18446744073709551616) x.2.1.1.1 x.2.1.1.2.1 x.2.1.1.2.2.1 x.2.1.1.2.2.2.2.1 x.2.1.1.2.2.2.2.2.1 x.2.1.1.2.2.2.2.2.2.1 x.2.1.1.2.2.2.2.2.2.2.1 x.2.1.1.2.2.2.2.2.2.2.2.1 x.2.1.1.2.2.2.2.2.2.2.2.2.2.1 x.2.1.1.2.2.2.2.2.2.2.2.2.2.2.1 x.2.1.1.2.2.2.2.2.2.2.2.2.2.2.2.1 x.2.2.1 x.2.2.2.1
def yuQ (x:(yjz).X):Option ((yjt).X ⊕ (yjK).X):=zr ydK (yCd x) (yB5 x)
def yCw:Seg:=⟨yjz,yjt,yjK,yuQ⟩
def yDt:Nat→Option Seg:=fun q=>bif Nat.beq q 6 then some yCw else yDs q
theorem yP4:FrOk Tryz.prog ⟨ysI,22,yDt⟩ ynt:=(yP3).loop (sg:=yCw) ydz yB5 (by decide) ySu ydK yCd (by decide) (fun _=>rfl) (fun x r _ h=>h) yUG
abbrev yfS:List Par:= [.pt tA (.pr .fz (.pr (.pr .fz .fz) (.pr (.ow (.pr (.ow .fz) (.pr (.ow (.pr .fz .fz)) (.pr .fz (.ow .fz))))) (.pr .fz (.pr .fz (.pr .fz (.pr .fz (.pr .fz (.pr (.ow (.pr .fz .fz)) (.pr .fz (.pr .fz .fz)))))))))))]
abbrev ynQ:List OT:= [⟨false,tI,.fz⟩]
def ypc (a0:dA):Option (ResD ynQ×MutD yfS) :=
  zjw (yuQ ((((),()),()),((a0.1,a0.2.1.1,a0.2.1.2,(),a0.2.2.2.1,a0.2.2.2.2.1,a0.2.2.2.2.2.1,a0.2.2.2.2.2.2.1,a0.2.2.2.2.2.2.2.1,(),a0.2.2.2.2.2.2.2.2.2.1,a0.2.2.2.2.2.2.2.2.2.2.1,a0.2.2.2.2.2.2.2.2.2.2.2,()),()),(a0.2.2.1,a0.2.2.2.2.2.2.2.2.1,()))) (fun y2 =>
    some ((0,()),((y2.2.1.1.1,(y2.2.1.1.2.1,y2.2.1.1.2.2.1),y2.2.2.1,y2.2.1.1.2.2.2.2.1,y2.2.1.1.2.2.2.2.2.1,y2.2.1.1.2.2.2.2.2.2.1,y2.2.1.1.2.2.2.2.2.2.2.1,y2.2.1.1.2.2.2.2.2.2.2.2.1,y2.2.2.2.1,y2.2.1.1.2.2.2.2.2.2.2.2.2.2.1,y2.2.1.1.2.2.2.2.2.2.2.2.2.2.2.1,y2.2.1.1.2.2.2.2.2.2.2.2.2.2.2.2.1),()))) (fun y2 =>
    some ((y2.1.1.1,()),((y2.2.1.1.1,(y2.2.1.1.2.1,y2.2.1.1.2.2.1),y2.2.2.1,y2.2.1.1.2.2.2.2.1,y2.2.1.1.2.2.2.2.2.1,y2.2.1.1.2.2.2.2.2.2.1,y2.2.1.1.2.2.2.2.2.2.2.1,y2.2.1.1.2.2.2.2.2.2.2.2.1,y2.2.2.2.1,y2.2.1.1.2.2.2.2.2.2.2.2.2.2.1,y2.2.1.1.2.2.2.2.2.2.2.2.2.2.2.1,y2.2.1.1.2.2.2.2.2.2.2.2.2.2.2.2.1),())))
theorem yXo (x:InD yfS):zjH ⟨ysI,22,yDt⟩ Tryz.f186.results.toList ynt yfS ynQ x=ypc x.1:=by kernel_rfl
theorem yUd:ConOk Tryz.prog 186 ⟨yfS,ynQ,fun x=>ypc x.1⟩:=zkh (yP4) Tryz.func186 (by kernel_rfl) (by kernel_rfl) Tryz.ntmps186.symm (by decide) (fun x r h=>(yXo x).trans h)
def ytT (a0:dA):Int×dA:=allE a0
def yz2 (a0:dA):Bool:=decide (a0.2.2.2.2.2.2.2.2.1.length≤1000)
theorem yWl (a0:dA) (hk:zi9 yfS (a0,())) (hq:yz2 a0=true):ypc a0=(fun n=>some ((n.1,()),(n.2,()))) (ytT a0):=by
  have hq:=of_decide_eq_true hq
  have h1:=zkr (step:=ydK) a0.2.2.2.2.2.2.2.2.1.length (fun _ s=>ytO s) yuS (fun i s=>s.2.2.2.2.2.2.2.2.1.length+i=a0.2.2.2.2.2.2.2.2.1.length) (fun b=>(0,b))
    (fun r=>bif r.1==0 then .inl (yQj r.2) else .inr (yQs r.1 r.2)) (fun i s hi hs=>by
      have hp:0 < s.2.2.2.2.2.2.2.2.1.length:=by omega
      constructor
      · simp only [ydK,ytO,yuj,zkV,zjI (show (0:Int) < (s.2.2.2.2.2.2.2.2.1.length:Int) by omega),cond_true,show inb 0 s.2.2.2.2.2.2.2.2.1.length=true from zkO (i:=0) hp]
        rw [yCr s (nth s.2.2.2.2.2.2.2.2.1 0 (0,[])).1 (decide_eq_true (show s.2.2.2.2.2.2.2.2.1.length≤1000 by omega))]
        simp only [zky,yj4]
        unfold yuS
        generalize flushE s (nth s.2.2.2.2.2.2.2.2.1 0 (0,[])).1=R
        cases hr:(R.1 !=0)
        · rfl
        · simp only [cond_true]
          rw [show (R.1==0)=false from beq_eq_false_iff_ne.2 (bne_iff_ne.1 hr)]; rfl
      · intro s' h
        unfold yuS at h
        cases hr:((flushE s (nth s.2.2.2.2.2.2.2.2.1 0 (0,[])).1).1 !=0)
        · rw [hr]at h
          simp only [cond_false,Sum.inl.injEq]at h
          rw [← h,yYR hp (bne_eq_false_iff_eq.1 hr),List.length_drop]; omega
        · rw [hr]at h; cases h) (fun s hs=>by
      simp only [ydK,ytO,yuj,show ltb 0 (s.2.2.2.2.2.2.2.2.1.length:Int)=false from zkm (by omega)]; rfl) a0 rfl 18446744073709551616 (by omega)
  unfold ypc ytT allE
  refine (congrArg (fun z=>zjw z _ _) (show yuQ (yQo a0)=_ from h1)).trans ?_
  generalize goE yuS (fun b=>(0,b)) a0.2.2.2.2.2.2.2.2.1.length 0 a0=R
  cases hr:(R.1==0)
  · rfl
  · simp only [cond_true,zkJ,zkV]
    rw [show R.1=0 from beq_iff_eq.1 hr]
def yn7 (a0:dA):Option (ResD ynQ×MutD yfS):=bif yz2 a0 then (fun n=>some ((n.1,()),(n.2,()))) (ytT a0) else none
theorem yWI (a0:dA) (h:yz2 a0=true):yn7 a0=(fun n=>some ((n.1,()),(n.2,()))) (ytT a0):=by unfold yn7; rw [h]; rfl
def yD4:Con:=⟨yfS,ynQ,fun x=>yn7 x.1⟩
theorem yWF:ConOk Tryz.prog 186 yD4:=(yUd).mono (fun x r hk h=>zkW h (fun hq=>yWl x.1 hk hq))
end
section
def yCS:Code:=(Tryz.f232.body).getD .skip
def yDB:Env:=zki TT [(152,yh3)] [(12288,(.pr .fz .fz))]
theorem yJz:FrOk Tryz.prog ⟨yDB,10,fun _=>none⟩ yCS:=zkp yc yd ⟨yoZ,trivial⟩
def yK3:Nat→Option Seg:=fun _=>none
abbrev yjf:List Par:= [.rd tM]
abbrev yoG:List OT:= [⟨false,tM,(.pr (.ow .fz) (.pr (.ow (.pr .fz .fz)) (.pr .fz (.ow .fz))))⟩]
def yrU (a0:dM):Option (ResD yoG×MutD yjf) :=
  let r1:=yae a0
  some (((r1.1,([]:List dW),true,r1.2.2.2),()),())
theorem ySN (x:InD yjf):zjH ⟨yDB,10,yK3⟩ Tryz.f232.results.toList yCS yjf yoG x=yrU x.1:=by kernel_rfl
theorem yNs:ConOk Tryz.prog 232 ⟨yjf,yoG,fun x=>yrU x.1⟩:=zkh (yJz) Tryz.func232 (by kernel_rfl) (by kernel_rfl) Tryz.ntmps232.symm (by decide) (fun x r h=>(ySN x).trans h)
def yjY (a0:dM):dM :=
  let r1:=yae a0
  (r1.1,([]:List dW),true,r1.2.2.2)
def yru:Con:=⟨yjf,yoG,fun x=>(fun n=>some ((n,()),())) (yjY x.1)⟩
theorem yQF (a0:dM):yrU a0=(fun n=>some ((n,()),())) (yjY a0):=zkS (p:=fun (n:dM)=>((n,()),())) rfl
theorem yCl:ConOk Tryz.prog 232 yru:=(yNs).mono (fun x r _ h=>(yQF x.1).trans h)
end
section
def yCV:Code:=(Tryz.f199.body).getD .skip
def yDE:Env:=zki TT [(203,ymU),(232,yru)] []
theorem yJE:FrOk Tryz.prog ⟨yDE,62,fun _=>none⟩ yCV:=zkp yc yd ⟨yu8,yCl,trivial⟩
def yK6:Nat→Option Seg:=fun _=>none
abbrev ydo:List Par:= [.pt tA (.pr .fz (.pr (.pr .fz .fz) (.pr (.ow (.pr (.ow .fz) (.pr (.ow (.pr .fz .fz)) (.pr .fz (.ow .fz))))) (.pr .fz (.pr .fz (.pr .fz (.pr .fz (.pr .fz (.pr (.ow (.pr .fz .fz)) (.pr .fz (.pr .fz .fz))))))))))),.rd tI]
abbrev yjC:List OT:= []
def ykM (a0:dA) (a1:Int):Option (ResD yjC×MutD ydo) :=
  bif (inb a1 a0.2.2.1.length) then
    let r1:=yjY ((nth a0.2.2.1 a1 ([],[],false,[])).1,((nth a0.2.2.1 a1 ([],[],false,[])).2).1,(((nth a0.2.2.1 a1 ([],[],false,[])).2).2))
    bif (inb a1 a0.2.2.1.length) then
      bif (!(a0.2.2.2.1==(-1))) then
        bif (a0.2.2.2.1==a1) then
          bif (!a0.2.2.2.2.2.2.2.2.2.2.1) then
            bif (!a0.2.2.2.2.2.2.2.2.2.2.2) then
              bif (ltb a0.2.2.2.2.2.2.2.1 60000) then
                let r2:=yax (a0.1,a0.2.1,(a0.2.2.1.set (a1).toNat r1),a1,0,a0.2.2.2.2.2)
                some ((),(r2,()))
              else
                some ((),((a0.1,a0.2.1,(a0.2.2.1.set (a1).toNat r1),a1,0,a0.2.2.2.2.2),()))
            else
              some ((),((a0.1,a0.2.1,(a0.2.2.1.set (a1).toNat r1),a1,0,a0.2.2.2.2.2),()))
          else
            some ((),((a0.1,a0.2.1,(a0.2.2.1.set (a1).toNat r1),a1,0,a0.2.2.2.2.2),()))
        else
          bif (!a0.2.2.2.2.2.2.2.2.2.2.1) then
            some ((),((a0.1,a0.2.1,(a0.2.2.1.set (a1).toNat r1),a0.2.2.2.1,a0.2.2.2.2.1,a0.2.2.2.2.2.1,a0.2.2.2.2.2.2.1,a0.2.2.2.2.2.2.2.1,a0.2.2.2.2.2.2.2.2.1,a0.2.2.2.2.2.2.2.2.2.1,a0.2.2.2.2.2.2.2.2.2.2.1,true),()))
          else
            some ((),((a0.1,a0.2.1,(a0.2.2.1.set (a1).toNat r1),a0.2.2.2.1,a0.2.2.2.2.1,a0.2.2.2.2.2.1,a0.2.2.2.2.2.2.1,a0.2.2.2.2.2.2.2.1,a0.2.2.2.2.2.2.2.2.1,a0.2.2.2.2.2.2.2.2.2.1,a0.2.2.2.2.2.2.2.2.2.2.1,true),()))
      else
        bif (!a0.2.2.2.2.2.2.2.2.2.2.1) then
          bif (!a0.2.2.2.2.2.2.2.2.2.2.2) then
            bif (ltb a0.2.2.2.2.2.2.2.1 60000) then
              let r3:=yax (a0.1,a0.2.1,(a0.2.2.1.set (a1).toNat r1),a1,0,a0.2.2.2.2.2)
              some ((),(r3,()))
            else
              some ((),((a0.1,a0.2.1,(a0.2.2.1.set (a1).toNat r1),a1,0,a0.2.2.2.2.2),()))
          else
            some ((),((a0.1,a0.2.1,(a0.2.2.1.set (a1).toNat r1),a1,0,a0.2.2.2.2.2),()))
        else
          some ((),((a0.1,a0.2.1,(a0.2.2.1.set (a1).toNat r1),a1,0,a0.2.2.2.2.2),()))
    else none
  else none
theorem ySR (x:InD ydo):zjH ⟨yDE,62,yK6⟩ Tryz.f199.results.toList yCV ydo yjC x=ykM x.1 x.2.1:=by kernel_rfl
theorem yNw:ConOk Tryz.prog 199 ⟨ydo,yjC,fun x=>ykM x.1 x.2.1⟩:=zkh (yJE) Tryz.func199 (by kernel_rfl) (by kernel_rfl) Tryz.ntmps199.symm (by decide) (fun x r h=>(ySR x).trans h)
def yoT (a0:dA) (a1:Int):dA:=failOne a0 a1
def yvc (a0:dA) (a1:Int):Bool:=inb a1 a0.2.2.1.length
theorem yQJ (a0:dA) (a1:Int) (hk:zi9 ydo (a0,a1,())) (hq:yvc a0 a1=true):ykM a0 a1=(fun n=>some ((),(n,()))) (yoT a0 a1):=by
  have hq:inb a1 a0.2.2.1.length=true:=hq
  unfold ykM yoT failOne ydB yPj yjQ downA
  simp only [hq,zkV,yjY,yae,yax]
  cases (a0.2.2.2.1== -1)<;>cases (a0.2.2.2.1==a1)<;>cases a0.2.2.2.2.2.2.2.2.2.2.1<;>cases a0.2.2.2.2.2.2.2.2.2.2.2<;>cases ltb a0.2.2.2.2.2.2.2.1 60000<;>rfl
def yj6 (a0:dA) (a1:Int):Option (ResD yjC×MutD ydo):=bif yvc a0 a1 then (fun n=>some ((),(n,()))) (yoT a0 a1) else none
theorem yRK (a0:dA) (a1:Int) (h:yvc a0 a1=true):yj6 a0 a1=(fun n=>some ((),(n,()))) (yoT a0 a1):=by unfold yj6; rw [h]; rfl
def yyY:Con:=⟨ydo,yjC,fun x=>yj6 x.1 x.2.1⟩
theorem yRF:ConOk Tryz.prog 199 yyY:=(yNw).mono (fun x r hk h=>zkW h (fun hq=>yQJ x.1 x.2.1 hk hq))
end
section
def yg5:Code:=(Tryz.f265.body).getD .skip
def ymk:Env:=zki TT [(135,yq),(152,yh3),(224,yfy),(238,yuZ)] []
theorem yHY:FrOk Tryz.prog ⟨ymk,68,fun _=>none⟩ yg5:=zkp yc yd ⟨yu,yoZ,ylN,yGn,trivial⟩
def ywU:Nat→Option Seg:=fun _=>none
def yaD:Shape:=⟨[(1,false,[.int .i64]),(4,false,[.ptr 64 0]),(5,false,[.ptr 4224 0]),(6,false,[.int .i64])],[(64,[.nil,.nil,.bool,.nil]),(4224,[.at 800000000,.at 800000001,.bool,.at 800000002])],[(800000000,tL,.fz),(800000001,tW,(.pr .fz .fz)),(800000002,tI,.fz)]⟩
def ydl:Shape:=⟨[(1,false,[.int .i64]),(4,false,[.ptr 64 0]),(5,false,[.ptr 4224 0]),(6,false,[.int .i64])],[(64,[.nil,.nil,.bool,.nil]),(4224,[.at 800000000,.at 800000001,.bool,.at 800000002])],[(800000000,tL,.fz),(800000001,tW,(.pr .fz .fz)),(800000002,tI,.fz)]⟩
def ydi:Shape:=⟨[(1,false,[.int .i64]),(4,false,[.ptr 64 0]),(5,false,[.ptr 4224 0]),(6,false,[.int .i64])],[(64,[.nil,.nil,.bool,.nil]),(4224,[.at 800000000,.at 800000001,.bool,.at 800000002])],[(800000000,tL,.fz),(800000001,tW,(.pr .fz .fz)),(800000002,tI,.fz)]⟩
def ygA:Shape:=⟨[],[],[]⟩
abbrev ykB (v0:Int) (v1:Int) (v2:dM) (v3:dM):(yaD).X:=(((v0,()),((),()),((),()),(v1,()),()),(((),(),v2.2.2.1,(),()),((),(),v3.2.2.1,(),()),()),(v3.1,v3.2.1,v3.2.2.2,()))
abbrev yEV (v0:Int) (v1:Int) (v2:dM) (v3:dM):(ydl).X:=(((v0,()),((),()),((),()),(v1,()),()),(((),(),v2.2.2.1,(),()),((),(),v3.2.2.1,(),()),()),(v3.1,v3.2.1,v3.2.2.2,()))
abbrev yES (v0:Int) (v1:Int) (v2:dM) (v3:dM):(ydi).X:=(((v0,()),((),()),((),()),(v1,()),()),(((),(),v2.2.2.1,(),()),((),(),v3.2.2.1,(),()),()),(v3.1,v3.2.1,v3.2.2.2,()))
def ykU (v0:Int) (v1:Int) (v2:Bool) (v3:Bool) (v4:List (List Int)) (v5:List dW) (v6:List Int):Option ((yaD).X ⊕ ((ydi).X ⊕ (ygA).X)) :=
  bif (ltb 0 v1) then
    bif (inb (IntKind.i64.wrap (v1 - 1)) v6.length) then
      bif (ltb v0 (nth v6 (IntKind.i64.wrap (v1 - 1)) 0)) then
        bif (inb (IntKind.i64.wrap (v1 - 1)) v6.length) then
          bif (inb v1 v6.length) then
            some (.inl (((v0,()),((),()),((),()),((IntKind.i64.wrap (v1 - 1)),()),()),(((),(),v2,(),()),((),(),v3,(),()),()),(v4,v5,(v6.set (v1).toNat (nth v6 (IntKind.i64.wrap (v1 - 1)) 0)),())))
          else none
        else none
      else
        some (.inr (.inl (((v0,()),((),()),((),()),(v1,()),()),(((),(),v2,(),()),((),(),v3,(),()),()),(v4,v5,v6,()))))
    else none
  else
    some (.inr (.inl (((v0,()),((),()),((),()),(v1,()),()),(((),(),v2,(),()),((),(),v3,(),()),()),(v4,v5,v6,()))))
def yaQ (x:(yaD).X):=ykU x.1.1.1 x.1.2.2.2.1.1 x.2.1.1.2.2.1 x.2.1.2.1.2.2.1 x.2.2.1 x.2.2.2.1 x.2.2.2.2.1
def ytG (x:(ydl).X):(yaD).X:=(((x.1.1.1,()),((),()),((),()),(x.1.2.2.2.1.1,()),()),(((),(),x.2.1.1.2.2.1,(),()),((),(),x.2.1.2.1.2.2.1,(),()),()),(x.2.2.1,x.2.2.2.1,x.2.2.2.2.1,()))
def yuo:Code:=(zdI yg5 64 504).getD .skip
theorem yGs:zdI yg5 64 126=some (.block 0 (.loop yuo)):=by kernel_rfl
theorem yGP (x:(yaD).X):zg7 ⟨ymk,68,ywU⟩ 0 yuo 504 yaD ydi ygA x=yaQ x:=by kernel_rfl
def ytJ (x:(ydl).X):Nat:=(fun (u0:Int) (u1:Int) (u2:Bool) (u3:Bool) (u4:List (List Int)) (u5:List dW) (u6:List Int)=>18446744073709551616) x.1.1.1 x.1.2.2.2.1.1 x.2.1.1.2.2.1 x.2.1.2.1.2.2.1 x.2.2.1 x.2.2.2.1 x.2.2.2.2.1
def yl5 (x:(ydl).X):Option ((ydi).X ⊕ (ygA).X):=zr yaQ (ytJ x) (ytG x)
def yue:Seg:=⟨ydl,ydi,ygA,yl5⟩
def ywV:Nat→Option Seg:=fun q=>bif Nat.beq q 126 then some yue else ywU q
theorem yHZ:FrOk Tryz.prog ⟨ymk,68,ywV⟩ yg5:=(yHY).loop (sg:=yue) yaD ytG (by decide) yGs yaQ ytJ (by decide) (fun _=>rfl) (fun x r _ h=>h) yGP
abbrev yes:List Par:= [.rd tM,.rd tI]
abbrev ymD:List OT:= [⟨false,tM,(.pr (.ow .fz) (.pr (.ow (.pr .fz .fz)) (.pr .fz (.ow .fz))))⟩]
def yiO (a0:dM) (a1:Int):Option (ResD ymD×MutD yes) :=
  let r1:=yae a0
  let r2:=yai a0
  bif (!(!r2)) then
    let r3:=ya a1 0 (IntKind.i64.wrap ((a0.1.length:Int) - 1))
    bif (!(!r3)) then
      let r4:=ygu a0.2.2.2 a1
      bif r4 then
        some ((r1,()),())
      else
        bif (zj4 r1.2.2.2.length ([a1]:List Int).length 8) then
          zjw (yl5 (((a1,()),((),()),((),()),((IntKind.i64.wrap (((r1.2.2.2++([a1]:List Int)).length:Int) - 1)),()),()),(((),(),false,(),()),((),(),r1.2.2.1,(),()),()),(r1.1,r1.2.1,(r1.2.2.2++([a1]:List Int)),()))) (fun y4 =>
            bif (inb y4.1.2.2.2.1.1 y4.2.2.2.2.1.length) then
              some (((y4.2.2.1,y4.2.2.2.1,y4.2.1.2.1.2.2.1,(y4.2.2.2.2.1.set (y4.1.2.2.2.1.1).toNat y4.1.1.1)),()),())
            else none) (fun y4 =>
            none)
        else none
    else
      some ((r1,()),())
  else
    some ((r1,()),())
theorem yPd (x:InD yes):zjH ⟨ymk,68,ywV⟩ Tryz.f265.results.toList yg5 yes ymD x=yiO x.1 x.2.1:=by kernel_rfl
theorem yKt:ConOk Tryz.prog 265 ⟨yes,ymD,fun x=>yiO x.1 x.2.1⟩:=zkh (yHZ) Tryz.func265 (by kernel_rfl) (by kernel_rfl) Tryz.ntmps265.symm (by decide) (fun x r h=>(yPd x).trans h)
def yeA (a0:dM) (a1:Int):dM:=spoil a0 a1
theorem yR7 (n:Int) (m:dM) (p:List Int) (hp: ∀ x∈p,x < n): ∀ (j:Nat) (q1 q2:List Int) (x:Int) (fuel:Nat),q1.length=j→j < fuel→(∀ y∈q1,n < y)→p.length+q1.length≤1000 →
    ∃ (x':Int) (q':List Int),q1++q2=q'∧zr yaQ fuel (ykB n ((p.length+q1.length:Nat):Int) noMem (m.1,m.2.1,m.2.2.1,(p++q1)++x::q2))=some (.inl (yES n (p.length:Nat) noMem (m.1,m.2.1,m.2.2.1,p++x'::q')))
  | 0,q1,q2,x,fuel+1,hj,hf,hq,hb=>by
    have:q1= []:=List.length_eq_zero_iff.1 hj
    subst this
    refine ⟨x,q2,rfl,?_⟩
    simp only [zr,yaQ,ykB,ykU,List.length_nil,Nat.add_zero,List.append_nil]
    rcases List.eq_nil_or_concat p with rfl | ⟨P,y,rfl⟩
    · rfl
    · have hy:=hp y (by simp)
      simp only [List.concat_eq_append,List.length_append,List.length_cons,List.length_nil,List.append_assoc,List.cons_append,List.nil_append]at hb ⊢
      rw [zjI (show (0:Int) < ((P.length+(0+1):Nat):Int) by omega),wr (show -9223372036854775808≤((P.length+(0+1):Nat):Int) - 1 by omega) (by omega),show ((P.length+(0+1):Nat):Int) - 1=(P.length:Nat) by omega,
        zkO (by simp),zjW,yYC,zkm (show y≤n by omega)]
      rfl
  | j+1,q1,q2,x,fuel+1,hj,hf,hq,hb=>by
    rcases List.eq_nil_or_concat q1 with rfl | ⟨Q,y,rfl⟩
    · cases hj
    · rw [List.concat_eq_append]at hj hq hb ⊢
      have hQ:Q.length=j:=by simpa using hj
      have hy:=hq y (by simp)
      obtain ⟨x',q',e1,e2⟩:=yR7 n m p hp j Q (y::q2) y fuel hQ (by omega) (fun z hz=>hq z (by simp [hz])) (by simp at hb; omega)
      refine ⟨x',q',by rw [← e1]; simp,?_⟩
      rw [← e2]
      have ea:((p++(Q++ [y]))++x::q2)=(p++Q)++y::x::q2:=by simp
      have el:p.length+(Q++ [y]).length=(p++Q).length+1:=by simp; omega
      have el2:p.length+Q.length=(p++Q).length:=by simp
      have hb2:(p++Q).length≤1000:=by simp at hb ⊢; omega
      rw [ea,el,el2]
      generalize p++Q=A at hb2
      rw [zr]
      simp only [yaQ,ykB,ykU]
      have es:(A++y::x::q2).set (A.length+1) y=A++y::y::q2:=by
        have:=yYH (A++ [y]) x y q2
        simp at this ⊢
      rw [zjI (show (0:Int) < ((A.length+1:Nat):Int) by omega),wr (show -9223372036854775808≤((A.length+1:Nat):Int) - 1 by omega) (by omega),show ((A.length+1:Nat):Int) - 1=(A.length:Nat) by omega,zkO (show A.length < (A++y::x::q2).length by simp),zjW,yYC,zjI hy,
        zkO (show A.length+1 < (A++y::x::q2).length by simp),Int.toNat_natCast,es]
      rfl
theorem yNc (a0:dM) (a1:Int) (hk:zi9 yes (a0,a1,())):yiO a0 a1=(fun n=>some ((n,()),())) (yeA a0 a1):=by
  unfold yiO yeA spoil
  simp only [yae,yai,ybC,ygu]
  cases hm:ym a0
  · rfl
  obtain ⟨h1,h2,h3,h4,h5,h6⟩:=yW hm
  rw [ykf]at h3
  have hlen:=yDN h3.2 (lo:=0) (n:=a0.1.length) h3.1 (by omega)
  rw [wr (show -9223372036854775808≤(a0.1.length:Int) - 1 by omega) (by omega)]
  have hi:(leb 0 a1&&leb a1 ((a0.1.length:Int) - 1))=inb a1 a0.1.length:=by
    rw [Bool.eq_iff_iff,Bool.and_eq_true,zjQ,zjQ,zjP]; omega
  rw [hi]
  cases hin:inb a1 a0.1.length
  · rfl
  cases hh:a0.2.2.2.any (· ==a1)
  · have hn:a1∉a0.2.2.2:=fun h=>by
      have:=List.any_eq_false.1 hh a1 h
      simp at this
    have hsp:=yXU h3.2 hn
    have hp: ∀ x∈a0.2.2.2.filter (fun x=>ltb x a1),x < a1:=fun x hx=>zjT.1 (List.mem_filter.1 hx).2
    have hq: ∀ x∈a0.2.2.2.filter (fun x=>ltb a1 x),a1 < x:=fun x hx=>zjT.1 (List.mem_filter.1 hx).2
    unfold yEg
    generalize a0.2.2.2.filter (fun x=>ltb x a1)=P at hsp hp
    generalize a0.2.2.2.filter (fun x=>ltb a1 x)=Q at hsp hq
    have hPQ:P.length+Q.length=a0.2.2.2.length:=by rw [hsp,List.length_append]
    obtain ⟨x',q',e1,e2⟩:=yR7 a1 a0 P hp Q.length Q [] a1 18446744073709551616 rfl (by omega) hq (by omega)
    rw [List.append_nil]at e1
    subst e1
    simp only [cond_true,cond_false,Bool.not_true,Bool.not_false,Bool.and_self]
    rw [zkw.2 (show (a0.2.2.2.length+ [a1].length) * 8≤140737488355328 by simp only [List.length_cons,List.length_nil]; omega),wr (show -9223372036854775808≤((a0.2.2.2++ [a1]).length:Int) - 1 by omega) (by simp only [List.length_append,List.length_cons,List.length_nil]; omega),
      show ((a0.2.2.2++ [a1]).length:Int) - 1=((P.length+Q.length:Nat):Int) by simp only [List.length_append,List.length_cons,List.length_nil]; omega,hsp,cond_true]
    refine (congrArg (fun z=>zjw z _ _) (show yl5 (yEV a1 ((P.length+Q.length:Nat):Int) noMem (a0.1,a0.2.1,a0.2.2.1,(P++Q)++ [a1]))=_ from e2)).trans ?_
    simp only [zkJ]
    show (bif inb (P.length:Int) (P++x'::Q).length then some (((a0.1,a0.2.1,a0.2.2.1,(P++x'::Q).set (P.length:Int).toNat a1),()),()) else none)=_
    rw [zkO (by simp),Int.toNat_natCast,yYH]; rfl
  · rfl
def ypu:Con:=⟨yes,ymD,fun x=>(fun n=>some ((n,()),())) (yeA x.1 x.2.1)⟩
theorem yzT:ConOk Tryz.prog 265 ypu:=(yKt).mono (fun x r hk h=>(yNc x.1 x.2.1 hk).trans h)
end
end
end Go.Tf
