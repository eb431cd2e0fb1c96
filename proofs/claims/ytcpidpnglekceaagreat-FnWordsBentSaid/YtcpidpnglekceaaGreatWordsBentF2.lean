/- Functions of the program, and what they come to. -/
import Derived.Test.YtcpidpnglekceaaGreatWordsBentF1
namespace Go.Tf
noncomputable section
open Go.Proofs
set_option synthInstance.maxHeartbeats 400000
set_option synthInstance.maxSize 10000
set_option linter.unusedVariables false
set_option linter.unusedSimpArgs false
set_option maxRecDepth 100000
section
def yzK:Code:=(Tryz.f217.body).getD .skip
def yAb:Env:=zki TT [] []
theorem yEX:FrOk Tryz.prog ⟨yAb,58,fun _=>none⟩ yzK:=zkp ye yf trivial
def yG6:Nat→Option Seg:=fun _=>none
abbrev yiY:List Par:= [.pt tU .fz]
abbrev yny:List OT:= [⟨false,tI,.fz⟩]
def yaw (a0:dU):Option (ResD yny×MutD yiY) :=
  bif (ltb a0.2.1 (a0.1.length:Int)) then
    bif (inb a0.2.1 a0.1.length) then
      some (((IntKind.i64.wrap ((BitVec.ofInt IntKind.i64.bits (IntKind.i64.wrap ((IntKind.i64.wrap ((BitVec.ofInt IntKind.i64.bits (IntKind.i64.wrap ((BitVec.ofInt IntKind.i64.bits ((IntKind.i64.wrap ((IntKind.i64.wrap (a0.2.2 * 6364136223846793005))+1442695040888963407)).fdiv (2 ^ (min (33:Int).toNat IntKind.i64.bits))) ^^^ BitVec.ofInt IntKind.i64.bits ((IntKind.i64.wrap ((IntKind.i64.wrap (a0.2.2 * 6364136223846793005))+1442695040888963407)).fdiv (2 ^ (min (47:Int).toNat IntKind.i64.bits)))).toNat:Int)) &&& BitVec.ofInt IntKind.i64.bits 255).toNat:Int))+(IntKind.i64.wrap (nth a0.1 a0.2.1 0)))) &&& BitVec.ofInt IntKind.i64.bits 255).toNat:Int)),()),((a0.1,(IntKind.i64.wrap (a0.2.1+1)),(IntKind.i64.wrap ((IntKind.i64.wrap (a0.2.2 * 6364136223846793005))+1442695040888963407))),()))
    else none
  else
    some (((IntKind.i64.wrap ((BitVec.ofInt IntKind.i64.bits (IntKind.i64.wrap ((BitVec.ofInt IntKind.i64.bits ((IntKind.i64.wrap ((IntKind.i64.wrap (a0.2.2 * 6364136223846793005))+1442695040888963407)).fdiv (2 ^ (min (33:Int).toNat IntKind.i64.bits))) ^^^ BitVec.ofInt IntKind.i64.bits ((IntKind.i64.wrap ((IntKind.i64.wrap (a0.2.2 * 6364136223846793005))+1442695040888963407)).fdiv (2 ^ (min (47:Int).toNat IntKind.i64.bits)))).toNat:Int)) &&& BitVec.ofInt IntKind.i64.bits 255).toNat:Int)),()),((a0.1,a0.2.1,(IntKind.i64.wrap ((IntKind.i64.wrap (a0.2.2 * 6364136223846793005))+1442695040888963407))),()))
theorem yNd (x:InD yiY):zjH ⟨yAb,58,yG6⟩ Tryz.f217.results.toList yzK yiY yny x=yaw x.1:=by kernel_rfl
theorem yJp:ConOk Tryz.prog 217 ⟨yiY,yny,fun x=>yaw x.1⟩:=zkh (yEX) Tryz.func217 (by kernel_rfl) (by kernel_rfl) Tryz.ntmps217.symm (by decide) (fun x r h=>(yNd x).trans h)
def ywV:Con:=⟨yiY,yny,fun x=>yaw x.1⟩
theorem yMb:ConOk Tryz.prog 217 ywV:=yJp
theorem yPT (x:Int):0≤IntKind.i64.wrap ((BitVec.ofInt IntKind.i64.bits x &&& BitVec.ofInt IntKind.i64.bits 255).toNat:Int)∧IntKind.i64.wrap ((BitVec.ofInt IntKind.i64.bits x &&& BitVec.ofInt IntKind.i64.bits 255).toNat:Int)≤255:=by
  have h:(BitVec.ofInt IntKind.i64.bits x &&& BitVec.ofInt IntKind.i64.bits 255).toNat≤255:=by
    rw [BitVec.toNat_and]
    exact Nat.le_trans Nat.and_le_right (by decide)
  rw [wr (by omega) (by omega)]
  omega
theorem yCo (u:List Int×Int×Int) (h:yM u): ∃ (r:Int) (u':List Int×Int×Int),yaw u=some ((r,()),(u',()))∧(0≤r∧r≤255)∧yM u':=by
  unfold yaw
  by_cases h1:u.2.1 < (u.1.length:Int)
  · rw [zjI h1,zjP.2 ⟨h.1,h1⟩]
    refine ⟨_,_,rfl,yPT _,?_,h.2⟩
    show 0≤IntKind.i64.wrap (u.2.1+1)
    have:=h.1; have:=h.2
    rw [wr (by omega) (by omega)]; omega
  · rw [zkm (Int.not_lt.1 h1)]
    exact ⟨_,_,rfl,yPT _,h⟩
end
section
def yxz:Code:=(Tryz.f124.body).getD .skip
def yyd:Env:=zki TT [(217,ywV)] []
theorem yCY:FrOk Tryz.prog ⟨yyd,31,fun _=>none⟩ yxz:=zkp ye yf ⟨yMb,trivial⟩
def yD8:Nat→Option Seg:=fun _=>none
abbrev yhq:List Par:= [.pt tU .fz,.rd tI]
abbrev ylF:List OT:= [⟨false,tI,.fz⟩]
def ya (a0:dU) (a1:Int):Option (ResD ylF×MutD yhq) :=
  bif (leb a1 0) then
    some ((0,()),(a0,()))
  else
    bif (leb a1 256) then
      bnd (yaw a0) fun r1 =>
      bif (a1 !=0) then
        some (((r1.1.1.tmod a1),()),(r1.2.1,()))
      else none
    else
      bnd (yaw a0) fun r2 =>
      bnd (yaw r2.2.1) fun r3 =>
      bnd (yaw r3.2.1) fun r4 =>
      bif (a1 !=0) then
        some ((((IntKind.i64.wrap ((IntKind.i64.wrap ((IntKind.i64.wrap (r2.1.1 * 65536))+(IntKind.i64.wrap (r3.1.1 * 256))))+r4.1.1)).tmod a1),()),(r4.2.1,()))
      else none
theorem yKJ (x:InD yhq):zjH ⟨yyd,31,yD8⟩ Tryz.f124.results.toList yxz yhq ylF x=ya x.1 x.2.1:=by kernel_rfl
theorem yGk:ConOk Tryz.prog 124 ⟨yhq,ylF,fun x=>ya x.1 x.2.1⟩:=zkh (yCY) Tryz.func124 (by kernel_rfl) (by kernel_rfl) Tryz.ntmps124.symm (by decide) (fun x r h=>(yKJ x).trans h)
def yD:Con:=⟨yhq,ylF,fun x=>ya x.1 x.2.1⟩
theorem yL:ConOk Tryz.prog 124 yD:=yGk
theorem yB (u:List Int×Int×Int) (n:Int) (h:yM u): ∃ (r:Int) (u':List Int×Int×Int),ya u n=some ((r,()),(u',()))∧(0≤r∧(0 < n→r < n)∧(n≤0→r=0))∧yM u':=by
  unfold ya
  by_cases h0:n≤0
  · rw [zk0 h0]
    exact ⟨_,_,rfl,⟨Int.le_refl _,fun h=>absurd h0 (by omega),fun _=>rfl⟩,h⟩
  · have hn:(n !=0)=true:=bne_iff_ne.2 (by omega)
    have key: ∀ x:Int,0≤x→0≤x.tmod n∧(0 < n→x.tmod n < n)∧(n≤0→x.tmod n=0):=fun x hx =>
      ⟨Int.tmod_nonneg n hx,fun hp=>Int.tmod_lt_of_pos x hp,fun hp=>absurd hp h0⟩
    rw [zkZ (by omega)]
    by_cases h1:n≤256
    · rw [zk0 h1]
      obtain ⟨r1,u1,e1,q1,d1⟩:=yCo u h
      rw [e1,zkX,zkY,zky,hn]
      exact ⟨_,_,rfl,key r1 q1.1,d1⟩
    · rw [zkZ (by omega)]
      obtain ⟨r1,u1,e1,q1,d1⟩:=yCo u h
      obtain ⟨r2,u2,e2,q2,d2⟩:=yCo u1 d1
      obtain ⟨r3,u3,e3,q3,d3⟩:=yCo u2 d2
      simp only [e1,e2,e3,zkX,zky,hn,zkY]
      refine ⟨_,_,rfl,key _ ?_,d3⟩
      rw [wr (show -9223372036854775808≤r1 * 65536 by omega) (by omega),wr (show -9223372036854775808≤r2 * 256 by omega) (by omega),wr (show -9223372036854775808≤r1 * 65536+r2 * 256 by omega) (by omega),wr (by omega) (by omega)]
      omega
end
section
def yA0:Code:=(Tryz.f109.body).getD .skip
def yBh:Env:=zki TT [(124,yD)] []
theorem yIh:FrOk Tryz.prog ⟨yBh,12,fun _=>none⟩ yA0:=zkp ye yf ⟨yL,trivial⟩
def yKq:Nat→Option Seg:=fun _=>none
abbrev ykS:List Par:= [.pt tU .fz,.rd tL]
abbrev ypJ:List OT:= [⟨false,tI,.fz⟩]
def yy (a0:dU) (a1:List Int):Option (ResD ypJ×MutD ykS) :=
  bnd (ya a0 (a1.length:Int)) fun r1 =>
  bif (inb r1.1.1 a1.length) then
    some (((nth a1 r1.1.1 0),()),(r1.2.1,()))
  else none
theorem yOC (x:InD ykS):zjH ⟨yBh,12,yKq⟩ Tryz.f109.results.toList yA0 ykS ypJ x=yy x.1 x.2.1:=by kernel_rfl
theorem yLJ:ConOk Tryz.prog 109 ⟨ykS,ypJ,fun x=>yy x.1 x.2.1⟩:=zkh (yIh) Tryz.func109 (by kernel_rfl) (by kernel_rfl) Tryz.ntmps109.symm (by decide) (fun x r h=>(yOC x).trans h)
def ycU:Con:=⟨ykS,ypJ,fun x=>yy x.1 x.2.1⟩
theorem yfs:ConOk Tryz.prog 109 ycU:=yLJ
theorem yjb (u:List Int×Int×Int) (l:List Int) (h:yM u) (hl:l≠ []): ∃ (r:Int) (u':List Int×Int×Int),yy u l=some ((r,()),(u',()))∧r∈l∧yM u':=by
  unfold yy
  obtain ⟨r1,u1,e1,q1,d1⟩:=yB u (l.length:Int) h
  have hp:0 < l.length:=List.length_pos_iff.2 hl
  have hr:=q1.2.1 (by omega)
  simp only [e1,zky,zjP.2 ⟨q1.1,hr⟩,cond_true]
  refine ⟨_,_,rfl,?_,d1⟩
  have:r1.toNat < l.length:=by have:=q1.1; omega
  unfold nth
  rw [List.getD_eq_getElem?_getD,List.getElem?_eq_getElem this,Option.getD_some]
  exact List.getElem_mem this
end
section
def yzE:Code:=(Tryz.f121.body).getD .skip
def yz5:Env:=zki TT [(115,yq)] []
theorem yEN:FrOk Tryz.prog ⟨yz5,9,fun _=>none⟩ yzE:=zkp ye yf ⟨yu,trivial⟩
def yG0:Nat→Option Seg:=fun _=>none
abbrev yiW:List Par:= [.rd tI]
abbrev ynq:List OT:= [⟨false,tI,.fz⟩]
def yqo (a0:Int):Option (ResD ynq×MutD yiW) :=
  let r1:=yb a0 0 1099511627776
  bif (!r1) then
    some (((-1),()),())
  else
    some (((IntKind.i64.wrap ((IntKind.i64.wrap (a0+2))+4)),()),())
theorem yM5 (x:InD yiW):zjH ⟨yz5,9,yG0⟩ Tryz.f121.results.toList yzE yiW ynq x=yqo x.1:=by kernel_rfl
theorem yJh:ConOk Tryz.prog 121 ⟨yiW,ynq,fun x=>yqo x.1⟩:=zkh (yEN) Tryz.func121 (by kernel_rfl) (by kernel_rfl) Tryz.ntmps121.symm (by decide) (fun x r h=>(yM5 x).trans h)
def yh (a0:Int):Int :=
  let r1:=yb a0 0 1099511627776
  bif (!r1) then
    (-1)
  else
    (IntKind.i64.wrap ((IntKind.i64.wrap (a0+2))+4))
def yb3:Con:=⟨yiW,ynq,fun x=>(fun n=>some ((n,()),())) (yh x.1)⟩
theorem yLa (a0:Int):yqo a0=(fun n=>some ((n,()),())) (yh a0):=zkS (p:=fun (n:Int)=>((n,()),())) (zkx (p:=fun (n:Int)=>((n,()),())) rfl rfl)
theorem yea:ConOk Tryz.prog 121 yb3:=(yJh).mono (fun x r _ h=>(yLa x.1).trans h)
theorem ycV (s:Int):yh s=ycH s:=by
  unfold yh ycH
  rw [yaL]
  by_cases h:0≤s∧s≤1099511627776
  · rw [zk0 h.1,zk0 h.2,wr (show -9223372036854775808≤s+2 by omega) (by omega),wr (by omega) (by omega)]
    show s+2+4=s+6
    omega
  · cases h1:(leb 0 s&&leb s 1099511627776)
    · rfl
    · rw [Bool.and_eq_true,zjQ,zjQ]at h1; exact absurd h1 h
end
section
def yzJ:Code:=(Tryz.f138.body).getD .skip
def yAa:Env:=zki TT [] []
theorem yEW:FrOk Tryz.prog ⟨yAa,8,fun _=>none⟩ yzJ:=zkp ye yf trivial
def yG5:Nat→Option Seg:=fun _=>none
abbrev yiX:List Par:= [.rd tI]
abbrev ynx:List OT:= [⟨false,tI,.fz⟩]
def yqp (a0:Int):Option (ResD ynx×MutD yiX) :=
  bif (ltb a0 0) then
    some (((-1),()),())
  else
    some (((IntKind.i64.wrap (2+(a0.tmod 4))),()),())
theorem yNc (x:InD yiX):zjH ⟨yAa,8,yG5⟩ Tryz.f138.results.toList yzJ yiX ynx x=yqp x.1:=by kernel_rfl
theorem yJo:ConOk Tryz.prog 138 ⟨yiX,ynx,fun x=>yqp x.1⟩:=zkh (yEW) Tryz.func138 (by kernel_rfl) (by kernel_rfl) Tryz.ntmps138.symm (by decide) (fun x r h=>(yNc x).trans h)
def yjn (a0:Int):Int :=
  bif (ltb a0 0) then
    (-1)
  else
    (IntKind.i64.wrap (2+(a0.tmod 4)))
def ywU:Con:=⟨yiX,ynx,fun x=>(fun n=>some ((n,()),())) (yjn x.1)⟩
theorem yLh (a0:Int):yqp a0=(fun n=>some ((n,()),())) (yjn a0):=zkS (p:=fun (n:Int)=>((n,()),())) (zkx (p:=fun (n:Int)=>((n,()),())) rfl rfl)
theorem yMa:ConOk Tryz.prog 138 ywU:=(yJo).mono (fun x r _ h=>(yLh x.1).trans h)
end
section
def yzD:Code:=(Tryz.f173.body).getD .skip
def yz4:Env:=zki TT [(187,yd4)] []
theorem yEM:FrOk Tryz.prog ⟨yz4,12,fun _=>none⟩ yzD:=zkp ye yf ⟨yjq,trivial⟩
def yGZ:Nat→Option Seg:=fun _=>none
abbrev yiV:List Par:= [.rd tG]
abbrev ynp:List OT:= [⟨false,tI,.fz⟩]
def yqn (a0:dG):Option (ResD ynp×MutD yiV) :=
  let r1:=yd a0
  bif (!r1) then
    some ((0,()),())
  else
    some (((IntKind.i64.wrap (a0.2 * (IntKind.i64.wrap (a0.1 - 1)))),()),())
theorem yM4 (x:InD yiV):zjH ⟨yz4,12,yGZ⟩ Tryz.f173.results.toList yzD yiV ynp x=yqn x.1:=by kernel_rfl
theorem yJg:ConOk Tryz.prog 173 ⟨yiV,ynp,fun x=>yqn x.1⟩:=zkh (yEM) Tryz.func173 (by kernel_rfl) (by kernel_rfl) Tryz.ntmps173.symm (by decide) (fun x r h=>(yM4 x).trans h)
def yr (a0:dG):Int :=
  let r1:=yd a0
  bif (!r1) then
    0
  else
    (IntKind.i64.wrap (a0.2 * (IntKind.i64.wrap (a0.1 - 1))))
def yj4:Con:=⟨yiV,ynp,fun x=>(fun n=>some ((n,()),())) (yr x.1)⟩
theorem yK9 (a0:dG):yqn a0=(fun n=>some ((n,()),())) (yr a0):=zkS (p:=fun (n:Int)=>((n,()),())) (zkx (p:=fun (n:Int)=>((n,()),())) rfl rfl)
theorem yq6:ConOk Tryz.prog 173 yj4:=(yJg).mono (fun x r _ h=>(yK9 x.1).trans h)
theorem yMp (a:Int×Int):0≤yr a∧yr a≤32:=by
  unfold yr
  cases h:yd a
  · simp
  · obtain ⟨⟨h1,h2⟩,h3,h4⟩:=yn.1 h
    have h5:0≤a.2 * (a.1 - 1):=Int.mul_nonneg (by omega) (by omega)
    have h6:a.2 * (a.1 - 1)≤8 * 4:=Int.mul_le_mul h4 (by omega) (by omega) (by omega)
    simp only [Bool.not_true,cond_false,wr (show -9223372036854775808≤a.1 - 1 by omega) (by omega),wr (show -9223372036854775808≤a.2 * (a.1 - 1) by omega) (by omega)]
    omega
theorem yyY {a:Int×Int} (h:yd a=true):yr a=a.2 * (a.1 - 1):=by
  unfold yr
  obtain ⟨⟨h1,h2⟩,h3,h4⟩:=yn.1 h
  have h5:0≤a.2 * (a.1 - 1):=Int.mul_nonneg (by omega) (by omega)
  have h6:a.2 * (a.1 - 1)≤8 * 4:=Int.mul_le_mul h4 (by omega) (by omega) (by omega)
  simp only [h,Bool.not_true,cond_false,wr (show -9223372036854775808≤a.1 - 1 by omega) (by omega),wr (show -9223372036854775808≤a.2 * (a.1 - 1) by omega) (by omega)]
def yT (l:List dW) (s:Int):Int:=yas (fun e:dW=>e.1==s) l
def yih (g:dG) (b:Int):Bool:=leb 0 b&&leb b (yr g - 1)
def yb9 (g:dG) (b:Int):Int:=bif yih g b then b.tdiv (g.1 - 1) else -1
def yoO (g:dG) (b:Int):Int:=bif yih g b then b.tmod (g.1 - 1) else -1
theorem ywo {g:dG} {b:Int} (h:yih g b=true):yd g=true∧(0≤b.tdiv (g.1 - 1)∧b.tdiv (g.1 - 1)≤g.2 - 1)∧(0≤b.tmod (g.1 - 1)∧b.tmod (g.1 - 1)≤g.1 - 2):=by
  simp only [yih,Bool.and_eq_true,zjQ]at h
  cases hg:yd g
  · have:yr g=0:=by unfold yr; rw [hg]; rfl
    omega
  · rw [yyY hg]at h
    have h2:=yn.1 hg
    rw [Int.tdiv_eq_ediv_of_nonneg h.1,Int.tmod_eq_emod_of_nonneg h.1]
    have h3:=Int.ediv_lt_of_lt_mul (show 0 < g.1 - 1 by omega) (show b < g.2 * (g.1 - 1) by omega)
    have h4:=Int.ediv_nonneg h.1 (show 0≤g.1 - 1 by omega)
    have h5:=Int.emod_nonneg b (show g.1 - 1≠0 by omega)
    have h6:=Int.emod_lt_of_pos b (show 0 < g.1 - 1 by omega)
    exact ⟨rfl,⟨h4,by omega⟩,h5,by omega⟩
theorem yD0 {g:dG} {b:Int} (h:yih g b=true):yS g (yb9 g b)=true:=by
  obtain ⟨h1,h2,_⟩:=ywo h
  unfold yb9
  rw [h,cond_true,ycy]
  exact ⟨h1,h2⟩
def ywp (a:dA) (b:Int):Int:=bif !(yv a) then 1 else bif a.2.2.2.2.2.2.2.2.2.2.1 then 6 else bif yih a.2.1 b then 0 else 2
def ybz (a:dA) (s:Int):List Int×Bool:=bif leb 0 (yT a.2.2.2.2.2.2.2.2.1 s) then ((nth a.2.2.2.2.2.2.2.2.1 (yT a.2.2.2.2.2.2.2.2.1 s) (0,[])).2,true) else bif a.2.2.2.2.2.2.2.2.2.2.2 then ([],false) else yru a s
def yRO (a:dA) (b:Int):Int×Int:=bif ywp a b !=0 then (0,ywp a b) else bif (ybz a (yb9 a.2.1 b)).2 then (nth (ybz a (yb9 a.2.1 b)).1 (yoO a.2.1 b) 0,0) else (0,5)
theorem yRF {a:dA} {b:Int} (h:ywp a b=0):yv a=true∧yih a.2.1 b=true∧a.2.2.2.2.2.2.2.2.2.2.1=false:=by
  unfold ywp at h
  cases ha:yv a
  · rw [ha]at h; exact absurd (show (1:Int)=0 from h) (by decide)
  · rw [ha]at h
    cases hd:a.2.2.2.2.2.2.2.2.2.2.1
    · rw [hd]at h
      cases hb:yih a.2.1 b
      · rw [hb]at h; exact absurd (show (2:Int)=0 from h) (by decide)
      · exact ⟨rfl,rfl,rfl⟩
    · rw [hd]at h; exact absurd (show (6:Int)=0 from h) (by decide)
theorem yQr {a:dA} (h:yv a=true) {i:Nat} (hi:i < a.2.2.2.2.2.2.2.2.1.length):(0≤(nth a.2.2.2.2.2.2.2.2.1 i (0,[])).1∧(nth a.2.2.2.2.2.2.2.2.1 i (0,[])).1≤a.2.1.2 - 1)∧((nth a.2.2.2.2.2.2.2.2.1 i (0,[])).2.length:Int)=a.2.1.1 - 1∧(nth a.2.2.2.2.2.2.2.2.1 i (0,[])).2.all isW=true∧(0 < i→(nth a.2.2.2.2.2.2.2.2.1 ((i - 1:Nat):Int) (0,[])).1 < (nth a.2.2.2.2.2.2.2.2.1 i (0,[])).1):=by
  have h1:yay a.2.1 a.2.2.2.2.2.2.2.2.1=true:=by simp only [yv,Bool.and_eq_true]at h; exact h.2.2.2.1
  simp only [yay,Bool.not_eq_true',List.any_eq_false,List.mem_range]at h1
  have h2:=h1 i hi
  simp only [yfo,Bool.not_eq_true,Bool.or_eq_false_iff,Bool.not_eq_false',bne_eq_false_iff_eq,Bool.and_eq_true,Bool.and_eq_false_iff,decide_eq_false_iff_not,zjQ]at h2
  refine ⟨h2.1,h2.2.1,h2.2.2.1,fun h0=> ?_⟩
  rcases h2.2.2.2 with h3 | h3
  · exact absurd h0 h3
  · have:=mt zk0 (by rw [h3]; simp: ¬ leb (nth a.2.2.2.2.2.2.2.2.1 i (0,[])).1 (nth a.2.2.2.2.2.2.2.2.1 ((i - 1:Nat):Int) (0,[])).1=true)
    omega
theorem yAt {a:dA} {s:Int} (h:yv a=true) (hs:yS a.2.1 s=true) (h2:(ybz a s).2=true):((ybz a s).1.length:Int)=a.2.1.1 - 1:=by
  have hg:=yn.1 (yac h)
  unfold ybz at h2 ⊢
  cases hk:leb 0 (yT a.2.2.2.2.2.2.2.2.1 s)
  · rw [hk]at h2
    simp only [cond_false]at h2 ⊢
    cases hb:a.2.2.2.2.2.2.2.2.2.2.2
    · rw [hb]at h2
      simp only [cond_false]at h2 ⊢
      unfold yru at h2 ⊢
      cases hw:(yH a s).2
      · rw [hw]at h2; cases h2
      · simp only [cond_true,List.length_map,List.length_range]; omega
    · rw [hb]at h2; cases h2
  · have h3:=zjP.1 (yuZ (d:=((0,[]):dW)) hk).1
    have:=(yQr h (i:=(yT a.2.2.2.2.2.2.2.2.1 s).toNat) (by unfold yT; omega)).2.1
    rw [show (((yT a.2.2.2.2.2.2.2.2.1 s).toNat:Nat):Int)=yT a.2.2.2.2.2.2.2.2.1 s by have:=zjQ.1 hk; omega]at this
    exact this
theorem yPW (g:dG) (b:Int):yb b 0 (IntKind.i64.wrap (yr g - 1))=yih g b:=by
  have:=yMp g
  rw [wr (by omega) (by omega),yaL]; rfl
end
end
end Go.Tf
