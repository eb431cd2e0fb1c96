/- Functions of the program, and what they come to. -/
import Derived.Test.YtgmadfpnljibhaaGreatBuiltBentF5
namespace Go.Tf
noncomputable section
open Go.Proofs
set_option synthInstance.maxHeartbeats 400000
set_option synthInstance.maxSize 10000
set_option linter.unusedVariables false
set_option linter.unusedSimpArgs false
set_option maxRecDepth 100000
section
def yJi:Code:=(Tryz.f209.body).getD .skip
def yJH:Env:=zki TT [(150,yv)] []
theorem ySQ:FrOk Tryz.prog ⟨yJH,10,fun _=>none⟩ yJi:=zkp yc yd ⟨yE,trivial⟩
def yUX:Nat→Option Seg:=fun _=>none
abbrev ypj:List Par:= [.pt tU .fz]
abbrev yu0:List OT:= [⟨false,tG,(.pr .fz .fz)⟩]
def ygM (a0:dU):Option (ResD yu0×MutD ypj) :=
  bnd (yb a0 3) fun r1 =>
  bnd (yb r1.2.1 4) fun r2 =>
  some ((((IntKind.i64.wrap (3+r1.1.1)),(IntKind.i64.wrap (1+r2.1.1))),()),(r2.2.1,()))
theorem yZs (x:InD ypj):zjH ⟨yJH,10,yUX⟩ Tryz.f209.results.toList yJi ypj yu0 x=ygM x.1:=by kernel_rfl
theorem yWt:ConOk Tryz.prog 209 ⟨ypj,yu0,fun x=>ygM x.1⟩:=zkh (ySQ) Tryz.func209 (by kernel_rfl) (by kernel_rfl) Tryz.ntmps209.symm (by decide) (fun x r h=>(yZs x).trans h)
def yF5:Con:=⟨ypj,yu0,fun x=>ygM x.1⟩
theorem yYL:ConOk Tryz.prog 209 yF5:=yWt
theorem y1u (u:dU) (h:yG u): ∃ (g:dG) (u':dU),ygM u=some ((g,()),(u',()))∧yf g=true∧yG u':=by
  unfold ygM
  obtain ⟨r1,u1,e1,q1,d1⟩:=yw u 3 h
  obtain ⟨r2,u2,e2,q2,d2⟩:=yw u1 4 d1
  simp only [e1,e2,zky]
  refine ⟨_,_,rfl,?_,d2⟩
  have:=q1.2.1 (by omega); have:=q2.2.1 (by omega); have:=q1.1; have:=q2.1
  rw [wr (by omega) (by omega),wr (by omega) (by omega)]
  exact yk.2 ⟨⟨by show 3≤3+r1; omega,by show 3+r1≤5; omega⟩,by show 1≤1+r2; omega,by show 1+r2≤8; omega⟩
end
section
def yJe:Code:=(Tryz.f124.body).getD .skip
def yJD:Env:=zki TT [(150,yv)] []
theorem ySE:FrOk Tryz.prog ⟨yJD,12,fun _=>none⟩ yJe:=zkp yc yd ⟨yE,trivial⟩
def yUT:Nat→Option Seg:=fun _=>none
abbrev ypd:List Par:= [.pt tU .fz,.rd tL]
abbrev yuS:List OT:= [⟨false,tI,.fz⟩]
def yB (a0:dU) (a1:List Int):Option (ResD yuS×MutD ypd) :=
  bnd (yb a0 (a1.length:Int)) fun r1 =>
  bif (inb r1.1.1 a1.length) then
    some (((nth a1 r1.1.1 0),()),(r1.2.1,()))
  else none
theorem yZk (x:InD ypd):zjH ⟨yJD,12,yUT⟩ Tryz.f124.results.toList yJe ypd yuS x=yB x.1 x.2.1:=by kernel_rfl
theorem yWl:ConOk Tryz.prog 124 ⟨ypd,yuS,fun x=>yB x.1 x.2.1⟩:=zkh (ySE) Tryz.func124 (by kernel_rfl) (by kernel_rfl) Tryz.ntmps124.symm (by decide) (fun x r h=>(yZk x).trans h)
def ygA:Con:=⟨ypd,yuS,fun x=>yB x.1 x.2.1⟩
theorem ym9:ConOk Tryz.prog 124 ygA:=yWl
theorem ypx (u:List Int×Int×Int) (l:List Int) (h:yG u) (hl:l≠ []): ∃ (r:Int) (u':List Int×Int×Int),yB u l=some ((r,()),(u',()))∧r∈l∧yG u':=by
  unfold yB
  obtain ⟨r1,u1,e1,q1,d1⟩:=yw u (l.length:Int) h
  have hp:0 < l.length:=List.length_pos_iff.2 hl
  have hr:=q1.2.1 (by omega)
  simp only [e1,zky,zjP.2 ⟨q1.1,hr⟩,cond_true]
  refine ⟨_,_,rfl,?_,d1⟩
  have:r1.toNat < l.length:=by have:=q1.1; omega
  unfold nth
  rw [List.getD_eq_getElem?_getD,List.getElem?_eq_getElem this,Option.getD_some]
  exact List.getElem_mem this
end
section
def yHu:Code:=(Tryz.f115.body).getD .skip
def yHX:Env:=zki TT [(124,ygA)] []
theorem yOT:FrOk Tryz.prog ⟨yHX,6,fun _=>none⟩ yHu:=zkp yc yd ⟨ym9,trivial⟩
def yRl:Nat→Option Seg:=fun _=>none
abbrev ymE:List Par:= [.pt tU .fz]
abbrev yss:List OT:= [⟨false,tI,.fz⟩]
def yae (a0:dU):Option (ResD yss×MutD ymE) :=
  bnd (yB a0 ([0,1,2,7,255,256,4660,65535]:List Int)) fun r1 =>
  some ((r1.1.1,()),(r1.2.1,()))
theorem yXQ (x:InD ymE):zjH ⟨yHX,6,yRl⟩ Tryz.f115.results.toList yHu ymE yss x=yae x.1:=by kernel_rfl
theorem yTP:ConOk Tryz.prog 115 ⟨ymE,yss,fun x=>yae x.1⟩:=zkh (yOT) Tryz.func115 (by kernel_rfl) (by kernel_rfl) Tryz.ntmps115.symm (by decide) (fun x r h=>(yXQ x).trans h)
def yvc:Con:=⟨ymE,yss,fun x=>yae x.1⟩
theorem yGt:ConOk Tryz.prog 115 yvc:=yTP
theorem y0j (u:List Int×Int×Int) (h:yG u): ∃ (r:Int) (u':List Int×Int×Int),yae u=some ((r,()),(u',()))∧ya r 0 65535=true∧yG u':=by
  unfold yae
  obtain ⟨r1,u1,e1,q1,d1⟩:=ypx u [0,1,2,7,255,256,4660,65535] h (by simp)
  simp only [e1,zky]
  refine ⟨_,_,rfl,?_,d1⟩
  simp only [List.mem_cons,List.not_mem_nil,or_false]at q1
  exact y2U (by omega) (by omega)
end
section
def yHn:Code:=(Tryz.f121.body).getD .skip
def yHQ:Env:=zki TT [(134,ygy)] []
theorem yOK:FrOk Tryz.prog ⟨yHQ,12,fun _=>none⟩ yHn:=zkp yc yd ⟨ym7,trivial⟩
def yRe:Nat→Option Seg:=fun _=>none
abbrev ymA:List Par:= [.rd tG]
abbrev ysk:List OT:= [⟨false,tI,.fz⟩]
def yvK (a0:dG):Option (ResD ysk×MutD ymA) :=
  let r1:=yf a0
  bif (!r1) then
    some ((0,()),())
  else
    some (((IntKind.i64.wrap (a0.2 * (IntKind.i64.wrap (a0.1 - 1)))),()),())
theorem yXI (x:InD ymA):zjH ⟨yHQ,12,yRe⟩ Tryz.f121.results.toList yHn ymA ysk x=yvK x.1:=by kernel_rfl
theorem yTH:ConOk Tryz.prog 121 ⟨ymA,ysk,fun x=>yvK x.1⟩:=zkh (yOK) Tryz.func121 (by kernel_rfl) (by kernel_rfl) Tryz.ntmps121.symm (by decide) (fun x r h=>(yXI x).trans h)
def yo (a0:dG):Int :=
  let r1:=yf a0
  bif (!r1) then
    0
  else
    (IntKind.i64.wrap (a0.2 * (IntKind.i64.wrap (a0.1 - 1))))
def yoj:Con:=⟨ymA,ysk,fun x=>(fun n=>some ((n,()),())) (yo x.1)⟩
theorem yVK (a0:dG):yvK a0=(fun n=>some ((n,()),())) (yo a0):=zkS (p:=fun (n:Int)=>((n,()),())) (zkx (p:=fun (n:Int)=>((n,()),())) rfl rfl)
theorem yw4:ConOk Tryz.prog 121 yoj:=(yTH).mono (fun x r _ h=>(yVK x.1).trans h)
theorem yW1 (a:Int×Int):0≤yo a∧yo a≤32:=by
  unfold yo
  cases h:yf a
  · simp
  · obtain ⟨⟨h1,h2⟩,h3,h4⟩:=yk.1 h
    have h5:0≤a.2 * (a.1 - 1):=Int.mul_nonneg (by omega) (by omega)
    have h6:a.2 * (a.1 - 1)≤8 * 4:=Int.mul_le_mul h4 (by omega) (by omega) (by omega)
    simp only [Bool.not_true,cond_false,wr (show -9223372036854775808≤a.1 - 1 by omega) (by omega),wr (show -9223372036854775808≤a.2 * (a.1 - 1) by omega) (by omega)]
    omega
theorem yGz {a:Int×Int} (h:yf a=true):yo a=a.2 * (a.1 - 1):=by
  unfold yo
  obtain ⟨⟨h1,h2⟩,h3,h4⟩:=yk.1 h
  have h5:0≤a.2 * (a.1 - 1):=Int.mul_nonneg (by omega) (by omega)
  have h6:a.2 * (a.1 - 1)≤8 * 4:=Int.mul_le_mul h4 (by omega) (by omega) (by omega)
  simp only [h,Bool.not_true,cond_false,wr (show -9223372036854775808≤a.1 - 1 by omega) (by omega),wr (show -9223372036854775808≤a.2 * (a.1 - 1) by omega) (by omega)]
def yah (l:List dW) (s:Int):Int:=yac (fun e:dW=>e.1==s) l
def ylP (g:dG) (b:Int):Bool:=leb 0 b&&leb b (yo g - 1)
def ydr (g:dG) (b:Int):Int:=bif ylP g b then b.tdiv (g.1 - 1) else -1
def ytY (g:dG) (b:Int):Int:=bif ylP g b then b.tmod (g.1 - 1) else -1
theorem yDS {g:dG} {b:Int} (h:ylP g b=true):yf g=true∧(0≤b.tdiv (g.1 - 1)∧b.tdiv (g.1 - 1)≤g.2 - 1)∧(0≤b.tmod (g.1 - 1)∧b.tmod (g.1 - 1)≤g.1 - 2):=by
  simp only [ylP,Bool.and_eq_true,zjQ]at h
  cases hg:yf g
  · have:yo g=0:=by unfold yo; rw [hg]; rfl
    omega
  · rw [yGz hg]at h
    have h2:=yk.1 hg
    rw [Int.tdiv_eq_ediv_of_nonneg h.1,Int.tmod_eq_emod_of_nonneg h.1]
    have h3:=Int.ediv_lt_of_lt_mul (show 0 < g.1 - 1 by omega) (show b < g.2 * (g.1 - 1) by omega)
    have h4:=Int.ediv_nonneg h.1 (show 0≤g.1 - 1 by omega)
    have h5:=Int.emod_nonneg b (show g.1 - 1≠0 by omega)
    have h6:=Int.emod_lt_of_pos b (show 0 < g.1 - 1 by omega)
    exact ⟨rfl,⟨h4,by omega⟩,h5,by omega⟩
theorem yNP {g:dG} {b:Int} (h:ylP g b=true):ycW g (ydr g b)=true:=by
  obtain ⟨h1,h2,_⟩:=yDS h
  unfold ydr
  rw [h,cond_true,ye8]
  exact ⟨h1,h2⟩
def yDT (a:dA) (b:Int):Int:=bif !(ym a) then 1 else bif a.2.2.2.2.2.2.2.2.2.2.1 then 6 else bif ylP a.2.1 b then 0 else 2
def ycK (a:dA) (s:Int):List Int×Bool:=bif leb 0 (yah a.2.2.2.2.2.2.2.2.1 s) then ((nth a.2.2.2.2.2.2.2.2.1 (yah a.2.2.2.2.2.2.2.2.1 s) (0,[])).2,true) else bif a.2.2.2.2.2.2.2.2.2.2.2 then ([],false) else yAE a s
def y2T (a:dA) (b:Int):Int×Int:=bif yDT a b !=0 then (0,yDT a b) else bif (ycK a (ydr a.2.1 b)).2 then (nth (ycK a (ydr a.2.1 b)).1 (ytY a.2.1 b) 0,0) else (0,5)
theorem y2L {a:dA} {b:Int} (h:yDT a b=0):ym a=true∧ylP a.2.1 b=true∧a.2.2.2.2.2.2.2.2.2.2.1=false:=by
  unfold yDT at h
  cases ha:ym a
  · rw [ha]at h; exact absurd (show (1:Int)=0 from h) (by decide)
  · rw [ha]at h
    cases hd:a.2.2.2.2.2.2.2.2.2.2.1
    · rw [hd]at h
      cases hb:ylP a.2.1 b
      · rw [hb]at h; exact absurd (show (2:Int)=0 from h) (by decide)
      · exact ⟨rfl,rfl,rfl⟩
    · rw [hd]at h; exact absurd (show (6:Int)=0 from h) (by decide)
theorem y1q {a:dA} (h:ym a=true) {i:Nat} (hi:i < a.2.2.2.2.2.2.2.2.1.length):(0≤(nth a.2.2.2.2.2.2.2.2.1 i (0,[])).1∧(nth a.2.2.2.2.2.2.2.2.1 i (0,[])).1≤a.2.1.2 - 1)∧((nth a.2.2.2.2.2.2.2.2.1 i (0,[])).2.length:Int)=a.2.1.1 - 1∧(nth a.2.2.2.2.2.2.2.2.1 i (0,[])).2.all isW=true∧(0 < i→(nth a.2.2.2.2.2.2.2.2.1 ((i - 1:Nat):Int) (0,[])).1 < (nth a.2.2.2.2.2.2.2.2.1 i (0,[])).1):=by
  have h1:yaY a.2.1 a.2.2.2.2.2.2.2.2.1=true:=by simp only [ym,Bool.and_eq_true]at h; exact h.2.2.2.1
  simp only [yaY,Bool.not_eq_true',List.any_eq_false,List.mem_range]at h1
  have h2:=h1 i hi
  simp only [yh7,Bool.not_eq_true,Bool.or_eq_false_iff,Bool.not_eq_false',bne_eq_false_iff_eq,Bool.and_eq_true,Bool.and_eq_false_iff,decide_eq_false_iff_not,zjQ]at h2
  refine ⟨h2.1,h2.2.1,h2.2.2.1,fun h0=> ?_⟩
  rcases h2.2.2.2 with h3 | h3
  · exact absurd h0 h3
  · have:=mt zk0 (by rw [h3]; simp: ¬ leb (nth a.2.2.2.2.2.2.2.2.1 i (0,[])).1 (nth a.2.2.2.2.2.2.2.2.1 ((i - 1:Nat):Int) (0,[])).1=true)
    omega
theorem yIg {a:dA} {s:Int} (h:ym a=true) (hs:ycW a.2.1 s=true) (h2:(ycK a s).2=true):((ycK a s).1.length:Int)=a.2.1.1 - 1:=by
  have hg:=yk.1 (ybI h)
  unfold ycK at h2 ⊢
  cases hk:leb 0 (yah a.2.2.2.2.2.2.2.2.1 s)
  · rw [hk]at h2
    simp only [cond_false]at h2 ⊢
    cases hb:a.2.2.2.2.2.2.2.2.2.2.2
    · rw [hb]at h2
      simp only [cond_false]at h2 ⊢
      unfold yAE at h2 ⊢
      cases hw:(yZ a s).2
      · rw [hw]at h2; cases h2
      · simp only [cond_true,List.length_map,List.length_range]; omega
    · rw [hb]at h2; cases h2
  · have h3:=zjP.1 (ywX (d:=((0,[]):dW)) hk).1
    have:=(y1q h (i:=(yah a.2.2.2.2.2.2.2.2.1 s).toNat) (by unfold yah; omega)).2.1
    rw [show (((yah a.2.2.2.2.2.2.2.2.1 s).toNat:Nat):Int)=yah a.2.2.2.2.2.2.2.2.1 s by have:=zjQ.1 hk; omega]at this
    exact this
theorem y0Q (g:dG) (b:Int):ya b 0 (IntKind.i64.wrap (yo g - 1))=ylP g b:=by
  have:=yW1 g
  rw [wr (by omega) (by omega),ydj]; rfl
end
section
def yHB:Code:=(Tryz.f146.body).getD .skip
def yH4:Env:=zki TT [(46,yk7),(135,yq),(225,yhu)] []
theorem yPe:FrOk Tryz.prog ⟨yH4,48,fun _=>none⟩ yHB:=zkp yc yd ⟨ysN,yz,yos,trivial⟩
def yRs:Nat→Option Seg:=fun _=>none
abbrev ymL:List Par:= [.rd tA,.rd tI,.rd tL]
abbrev ysC:List OT:= [⟨false,tI,.fz⟩]
def yvQ (a0:dA) (a1:Int) (a2:List Int):Option (ResD ysC×MutD ymL) :=
  let r1:=yW a0
  bif (!(!r1)) then
    bif (!((a2.length:Int) !=(IntKind.i64.wrap (a0.2.1.1 - 1)))) then
      let r2:=yQ a2
      bif (!r2) then
        some ((1,()),())
      else
        bif a0.2.2.2.2.2.2.2.2.2.2.1 then
          some ((6,()),())
        else
          let r3:=ya a1 0 (IntKind.i64.wrap (a0.2.1.2 - 1))
          bif (!r3) then
            some ((2,()),())
          else
            bif a0.2.2.2.2.2.2.2.2.2.2.2 then
              some ((5,()),())
            else
              bif (!(leb 60000 a0.2.2.2.2.2.1)) then
                bif (leb 59990 a0.2.2.2.2.2.2.2.1) then
                  some ((7,()),())
                else
                  some ((0,()),())
              else
                some ((7,()),())
    else
      some ((1,()),())
  else
    some ((1,()),())
theorem yX3 (x:InD ymL):zjH ⟨yH4,48,yRs⟩ Tryz.f146.results.toList yHB ymL ysC x=yvQ x.1 x.2.1 x.2.2.1:=by kernel_rfl
theorem yT2:ConOk Tryz.prog 146 ⟨ymL,ysC,fun x=>yvQ x.1 x.2.1 x.2.2.1⟩:=zkh (yPe) Tryz.func146 (by kernel_rfl) (by kernel_rfl) Tryz.ntmps146.symm (by decide) (fun x r h=>(yX3 x).trans h)
def yaD (a0:dA) (a1:Int) (a2:List Int):Int :=
  let r1:=yW a0
  bif (!(!r1)) then
    bif (!((a2.length:Int) !=(IntKind.i64.wrap (a0.2.1.1 - 1)))) then
      let r2:=yQ a2
      bif (!r2) then
        1
      else
        bif a0.2.2.2.2.2.2.2.2.2.2.1 then
          6
        else
          let r3:=ya a1 0 (IntKind.i64.wrap (a0.2.1.2 - 1))
          bif (!r3) then
            2
          else
            bif a0.2.2.2.2.2.2.2.2.2.2.2 then
              5
            else
              bif (!(leb 60000 a0.2.2.2.2.2.1)) then
                bif (leb 59990 a0.2.2.2.2.2.2.2.1) then
                  7
                else
                  0
              else
                7
    else
      1
  else
    1
def yEq:Con:=⟨ymL,ysC,fun x=>(fun n=>some ((n,()),())) (yaD x.1 x.2.1 x.2.2.1)⟩
theorem yVZ (a0:dA) (a1:Int) (a2:List Int):yvQ a0 a1 a2=(fun n=>some ((n,()),())) (yaD a0 a1 a2):=zkS (p:=fun (n:Int)=>((n,()),())) (zkx (p:=fun (n:Int)=>((n,()),())) (zkx (p:=fun (n:Int)=>((n,()),())) (zkx (p:=fun (n:Int)=>((n,()),())) rfl (zkx (p:=fun (n:Int)=>((n,()),())) rfl (zkx (p:=fun (n:Int)=>((n,()),())) rfl (zkx (p:=fun (n:Int)=>((n,()),())) rfl (zkx (p:=fun (n:Int)=>((n,()),())) (zkx (p:=fun (n:Int)=>((n,()),())) rfl rfl) rfl))))) rfl) rfl)
theorem yWR:ConOk Tryz.prog 146 yEq:=(yT2).mono (fun x r _ h=>(yVZ x.1 x.2.1 x.2.2.1).trans h)
end
section
def yHs:Code:=(Tryz.f160.body).getD .skip
def yHV:Env:=zki TT [] []
theorem yOR:FrOk Tryz.prog ⟨yHV,8,fun _=>none⟩ yHs:=zkp yc yd trivial
def yRj:Nat→Option Seg:=fun _=>none
abbrev ymC:List Par:= [.rd tI]
abbrev ysq:List OT:= [⟨false,tI,.fz⟩]
def yvM (a0:Int):Option (ResD ysq×MutD ymC) :=
  bif (ltb a0 0) then
    some (((-1),()),())
  else
    some (((IntKind.i64.wrap (2+(a0.tmod 4))),()),())
theorem yXO (x:InD ymC):zjH ⟨yHV,8,yRj⟩ Tryz.f160.results.toList yHs ymC ysq x=yvM x.1:=by kernel_rfl
theorem yTN:ConOk Tryz.prog 160 ⟨ymC,ysq,fun x=>yvM x.1⟩:=zkh (yOR) Tryz.func160 (by kernel_rfl) (by kernel_rfl) Tryz.ntmps160.symm (by decide) (fun x r h=>(yXO x).trans h)
def ym4 (a0:Int):Int :=
  bif (ltb a0 0) then
    (-1)
  else
    (IntKind.i64.wrap (2+(a0.tmod 4)))
def yEh:Con:=⟨ymC,ysq,fun x=>(fun n=>some ((n,()),())) (ym4 x.1)⟩
theorem yVQ (a0:Int):yvM a0=(fun n=>some ((n,()),())) (ym4 a0):=zkS (p:=fun (n:Int)=>((n,()),())) (zkx (p:=fun (n:Int)=>((n,()),())) rfl rfl)
theorem yWI:ConOk Tryz.prog 160 yEh:=(yTN).mono (fun x r _ h=>(yVQ x.1).trans h)
end
end
end Go.Tf
