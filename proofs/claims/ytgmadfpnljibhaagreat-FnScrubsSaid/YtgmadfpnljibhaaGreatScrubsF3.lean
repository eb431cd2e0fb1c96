/- Functions of the program, and what they come to. -/
import Derived.Test.YtgmadfpnljibhaaGreatScrubsF2
namespace Go.Tf
noncomputable section
open Go.Proofs
set_option synthInstance.maxHeartbeats 400000
set_option synthInstance.maxSize 10000
set_option linter.unusedVariables false
set_option linter.unusedSimpArgs false
set_option maxRecDepth 100000
section
def yFl:Code:=(Tryz.f121.body).getD .skip
def yFW:Env:=zki TT [(134,yfx)] []
theorem yLN:FrOk Tryz.prog ⟨yFW,12,fun _=>none⟩ yFl:=zkp yc yd ⟨ylM,trivial⟩
def yOh:Nat→Option Seg:=fun _=>none
abbrev yle:List Par:= [.rd tG]
abbrev yqD:List OT:= [⟨false,tI,.fz⟩]
def yt5 (a0:dG):Option (ResD yqD×MutD yle) :=
  let r1:=ye a0
  bif (!r1) then
    some ((0,()),())
  else
    some (((IntKind.i64.wrap (a0.2 * (IntKind.i64.wrap (a0.1 - 1)))),()),())
theorem yVA (x:InD yle):zjH ⟨yFW,12,yOh⟩ Tryz.f121.results.toList yFl yle yqD x=yt5 x.1:=by kernel_rfl
theorem yQ4:ConOk Tryz.prog 121 ⟨yle,yqD,fun x=>yt5 x.1⟩:=zkh (yLN) Tryz.func121 (by kernel_rfl) (by kernel_rfl) Tryz.ntmps121.symm (by decide) (fun x r h=>(yVA x).trans h)
def yf (a0:dG):Int :=
  let r1:=ye a0
  bif (!r1) then
    0
  else
    (IntKind.i64.wrap (a0.2 * (IntKind.i64.wrap (a0.1 - 1))))
def yey:Con:=⟨yle,yqD,fun x=>(fun n=>some ((n,()),())) (yf x.1)⟩
theorem yTs (a0:dG):yt5 a0=(fun n=>some ((n,()),())) (yf a0):=zkS (p:=fun (n:Int)=>((n,()),())) (zkx (p:=fun (n:Int)=>((n,()),())) rfl rfl)
theorem yj9:ConOk Tryz.prog 121 yey:=(yQ4).mono (fun x r _ h=>(yTs x.1).trans h)
theorem yvm (a:Int×Int):0≤yf a∧yf a≤32:=by
  unfold yf
  cases h:ye a
  · simp
  · obtain ⟨⟨h1,h2⟩,h3,h4⟩:=yg.1 h
    have h5:0≤a.2 * (a.1 - 1):=Int.mul_nonneg (by omega) (by omega)
    have h6:a.2 * (a.1 - 1)≤8 * 4:=Int.mul_le_mul h4 (by omega) (by omega) (by omega)
    simp only [Bool.not_true,cond_false,wr (show -9223372036854775808≤a.1 - 1 by omega) (by omega),wr (show -9223372036854775808≤a.2 * (a.1 - 1) by omega) (by omega)]
    omega
theorem yEw {a:Int×Int} (h:ye a=true):yf a=a.2 * (a.1 - 1):=by
  unfold yf
  obtain ⟨⟨h1,h2⟩,h3,h4⟩:=yg.1 h
  have h5:0≤a.2 * (a.1 - 1):=Int.mul_nonneg (by omega) (by omega)
  have h6:a.2 * (a.1 - 1)≤8 * 4:=Int.mul_le_mul h4 (by omega) (by omega) (by omega)
  simp only [h,Bool.not_true,cond_false,wr (show -9223372036854775808≤a.1 - 1 by omega) (by omega),wr (show -9223372036854775808≤a.2 * (a.1 - 1) by omega) (by omega)]
def yw (l:List dW) (s:Int):Int:=yaJ (fun e:dW=>e.1==s) l
def blkOk (g:dG) (b:Int):Bool:=leb 0 b&&leb b (yf g - 1)
def yQ (g:dG) (b:Int):Int:=bif blkOk g b then b.tdiv (g.1 - 1) else -1
def ybm (g:dG) (b:Int):Int:=bif blkOk g b then b.tmod (g.1 - 1) else -1
theorem ykg {g:dG} {b:Int} (h:blkOk g b=true):ye g=true∧(0≤b.tdiv (g.1 - 1)∧b.tdiv (g.1 - 1)≤g.2 - 1)∧(0≤b.tmod (g.1 - 1)∧b.tmod (g.1 - 1)≤g.1 - 2):=by
  simp only [blkOk,Bool.and_eq_true,zjQ]at h
  cases hg:ye g
  · have:yf g=0:=by unfold yf; rw [hg]; rfl
    omega
  · rw [yEw hg]at h
    have h2:=yg.1 hg
    rw [Int.tdiv_eq_ediv_of_nonneg h.1,Int.tmod_eq_emod_of_nonneg h.1]
    have h3:=Int.ediv_lt_of_lt_mul (show 0 < g.1 - 1 by omega) (show b < g.2 * (g.1 - 1) by omega)
    have h4:=Int.ediv_nonneg h.1 (show 0≤g.1 - 1 by omega)
    have h5:=Int.emod_nonneg b (show g.1 - 1≠0 by omega)
    have h6:=Int.emod_lt_of_pos b (show 0 < g.1 - 1 by omega)
    exact ⟨rfl,⟨h4,by omega⟩,h5,by omega⟩
theorem yqg {g:dG} {b:Int} (h:blkOk g b=true):yO g (yQ g b)=true:=by
  obtain ⟨h1,h2,_⟩:=ykg h
  unfold yQ
  rw [h,cond_true,yao]
  exact ⟨h1,h2⟩
def yfm (a:dA) (b:Int):Int:=bif !(yo a) then 1 else bif a.2.2.2.2.2.2.2.2.2.2.1 then 6 else bif blkOk a.2.1 b then 0 else 2
def yK (a:dA) (s:Int):List Int×Bool:=bif leb 0 (yw a.2.2.2.2.2.2.2.2.1 s) then ((nth a.2.2.2.2.2.2.2.2.1 (yw a.2.2.2.2.2.2.2.2.1 s) (0,[])).2,true) else bif a.2.2.2.2.2.2.2.2.2.2.2 then ([],false) else yqZ a s
def yah (a:dA) (b:Int):Int×Int:=bif yfm a b !=0 then (0,yfm a b) else bif (yK a (yQ a.2.1 b)).2 then (nth (yK a (yQ a.2.1 b)).1 (ybm a.2.1 b) 0,0) else (0,5)
theorem yUQ {a:dA} {b:Int} (h:yfm a b=0):yo a=true∧blkOk a.2.1 b=true∧a.2.2.2.2.2.2.2.2.2.2.1=false:=by
  unfold yfm at h
  cases ha:yo a
  · rw [ha]at h; exact absurd (show (1:Int)=0 from h) (by decide)
  · rw [ha]at h
    cases hd:a.2.2.2.2.2.2.2.2.2.2.1
    · rw [hd]at h
      cases hb:blkOk a.2.1 b
      · rw [hb]at h; exact absurd (show (2:Int)=0 from h) (by decide)
      · exact ⟨rfl,rfl,rfl⟩
    · rw [hd]at h; exact absurd (show (6:Int)=0 from h) (by decide)
theorem yZD {a:dA} (h:yo a=true) {i:Nat} (hi:i < a.2.2.2.2.2.2.2.2.1.length):(0≤(nth a.2.2.2.2.2.2.2.2.1 i (0,[])).1∧(nth a.2.2.2.2.2.2.2.2.1 i (0,[])).1≤a.2.1.2 - 1)∧((nth a.2.2.2.2.2.2.2.2.1 i (0,[])).2.length:Int)=a.2.1.1 - 1∧(nth a.2.2.2.2.2.2.2.2.1 i (0,[])).2.all isW=true∧(0 < i→(nth a.2.2.2.2.2.2.2.2.1 ((i - 1:Nat):Int) (0,[])).1 < (nth a.2.2.2.2.2.2.2.2.1 i (0,[])).1):=by
  have h1:yaz a.2.1 a.2.2.2.2.2.2.2.2.1=true:=by simp only [yo,Bool.and_eq_true]at h; exact h.2.2.2.1
  simp only [yaz,Bool.not_eq_true',List.any_eq_false,List.mem_range]at h1
  have h2:=h1 i hi
  simp only [ygV,Bool.not_eq_true,Bool.or_eq_false_iff,Bool.not_eq_false',bne_eq_false_iff_eq,Bool.and_eq_true,Bool.and_eq_false_iff,decide_eq_false_iff_not,zjQ]at h2
  refine ⟨h2.1,h2.2.1,h2.2.2.1,fun h0=> ?_⟩
  rcases h2.2.2.2 with h3 | h3
  · exact absurd h0 h3
  · have:=mt zk0 (by rw [h3]; simp: ¬ leb (nth a.2.2.2.2.2.2.2.2.1 i (0,[])).1 (nth a.2.2.2.2.2.2.2.2.1 ((i - 1:Nat):Int) (0,[])).1=true)
    omega
theorem ylT {a:dA} {s:Int} (h:yo a=true) (hs:yO a.2.1 s=true) (h2:(yK a s).2=true):((yK a s).1.length:Int)=a.2.1.1 - 1:=by
  have hg:=yg.1 (yam h)
  unfold yK at h2 ⊢
  cases hk:leb 0 (yw a.2.2.2.2.2.2.2.2.1 s)
  · rw [hk]at h2
    simp only [cond_false]at h2 ⊢
    cases hb:a.2.2.2.2.2.2.2.2.2.2.2
    · rw [hb]at h2
      simp only [cond_false]at h2 ⊢
      unfold yqZ at h2 ⊢
      cases hw:(yy a s).2
      · rw [hw]at h2; cases h2
      · simp only [cond_true,List.length_map,List.length_range]; omega
    · rw [hb]at h2; cases h2
  · have h3:=zjP.1 (yrz (d:=((0,[]):dW)) hk).1
    have:=(yZD h (i:=(yw a.2.2.2.2.2.2.2.2.1 s).toNat) (by unfold yw; omega)).2.1
    rw [show (((yw a.2.2.2.2.2.2.2.2.1 s).toNat:Nat):Int)=yw a.2.2.2.2.2.2.2.2.1 s by have:=zjQ.1 hk; omega]at this
    exact this
theorem yOR (g:dG) (b:Int):ya b 0 (IntKind.i64.wrap (yf g - 1))=blkOk g b:=by
  have:=yvm g
  rw [wr (by omega) (by omega),ybC]; rfl
def yEE (a:dA):List Int:=bif (List.range (yf a.2.1).toNat).all (fun (b:Nat)=> !((yah a b).2 !=0)) then (List.range (yf a.2.1).toNat).map (fun (b:Nat)=>(yah a b).1) else []
end
section
def yFA:Code:=(Tryz.f146.body).getD .skip
def yGb:Env:=zki TT [(46,yfw),(135,yq),(225,ygm)] []
theorem yMf:FrOk Tryz.prog ⟨yGb,48,fun _=>none⟩ yFA:=zkp yc yd ⟨ylL,yu,ymY,trivial⟩
def yOw:Nat→Option Seg:=fun _=>none
abbrev ylp:List Par:= [.rd tA,.rd tI,.rd tL]
abbrev yqV:List OT:= [⟨false,tI,.fz⟩]
def yub (a0:dA) (a1:Int) (a2:List Int):Option (ResD yqV×MutD ylp) :=
  let r1:=yD a0
  bif (!(!r1)) then
    bif (!((a2.length:Int) !=(IntKind.i64.wrap (a0.2.1.1 - 1)))) then
      let r2:=yL a2
      bif (!r2) then
        some ((1,()),())
      else
        bif a0.2.2.2.2.2.2.2.2.2.2.1 then
          some ((6,()),())
        else
          let r3:=ya a1 0 (IntKind.i64.wrap (a0.2.1.2 - 1))
          bif (!r3) then
            some ((2,()),())
          else
            bif a0.2.2.2.2.2.2.2.2.2.2.2 then
              some ((5,()),())
            else
              bif (!(leb 60000 a0.2.2.2.2.2.1)) then
                bif (leb 59990 a0.2.2.2.2.2.2.2.1) then
                  some ((7,()),())
                else
                  some ((0,()),())
              else
                some ((7,()),())
    else
      some ((1,()),())
  else
    some ((1,()),())
theorem yVV (x:InD ylp):zjH ⟨yGb,48,yOw⟩ Tryz.f146.results.toList yFA ylp yqV x=yub x.1 x.2.1 x.2.2.1:=by kernel_rfl
theorem yRp:ConOk Tryz.prog 146 ⟨ylp,yqV,fun x=>yub x.1 x.2.1 x.2.2.1⟩:=zkh (yMf) Tryz.func146 (by kernel_rfl) (by kernel_rfl) Tryz.ntmps146.symm (by decide) (fun x r h=>(yVV x).trans h)
def yT (a0:dA) (a1:Int) (a2:List Int):Int :=
  let r1:=yD a0
  bif (!(!r1)) then
    bif (!((a2.length:Int) !=(IntKind.i64.wrap (a0.2.1.1 - 1)))) then
      let r2:=yL a2
      bif (!r2) then
        1
      else
        bif a0.2.2.2.2.2.2.2.2.2.2.1 then
          6
        else
          let r3:=ya a1 0 (IntKind.i64.wrap (a0.2.1.2 - 1))
          bif (!r3) then
            2
          else
            bif a0.2.2.2.2.2.2.2.2.2.2.2 then
              5
            else
              bif (!(leb 60000 a0.2.2.2.2.2.1)) then
                bif (leb 59990 a0.2.2.2.2.2.2.2.1) then
                  7
                else
                  0
              else
                7
    else
      1
  else
    1
def yBW:Con:=⟨ylp,yqV,fun x=>(fun n=>some ((n,()),())) (yT x.1 x.2.1 x.2.2.1)⟩
theorem yTH (a0:dA) (a1:Int) (a2:List Int):yub a0 a1 a2=(fun n=>some ((n,()),())) (yT a0 a1 a2):=zkS (p:=fun (n:Int)=>((n,()),())) (zkx (p:=fun (n:Int)=>((n,()),())) (zkx (p:=fun (n:Int)=>((n,()),())) (zkx (p:=fun (n:Int)=>((n,()),())) rfl (zkx (p:=fun (n:Int)=>((n,()),())) rfl (zkx (p:=fun (n:Int)=>((n,()),())) rfl (zkx (p:=fun (n:Int)=>((n,()),())) rfl (zkx (p:=fun (n:Int)=>((n,()),())) (zkx (p:=fun (n:Int)=>((n,()),())) rfl rfl) rfl))))) rfl) rfl)
theorem yUx:ConOk Tryz.prog 146 yBW:=(yRp).mono (fun x r _ h=>(yTH x.1 x.2.1 x.2.2.1).trans h)
end
section
def yFs:Code:=(Tryz.f234.body).getD .skip
def yF3:Env:=zki TT [] []
theorem yLW:FrOk Tryz.prog ⟨yF3,58,fun _=>none⟩ yFs:=zkp yc yd trivial
def yOo:Nat→Option Seg:=fun _=>none
abbrev ylh:List Par:= [.pt tU .fz]
abbrev yqL:List OT:= [⟨false,tI,.fz⟩]
def yaL (a0:dU):Option (ResD yqL×MutD ylh) :=
  bif (ltb a0.2.1 (a0.1.length:Int)) then
    bif (inb a0.2.1 a0.1.length) then
      some (((IntKind.i64.wrap ((BitVec.ofInt IntKind.i64.bits (IntKind.i64.wrap ((IntKind.i64.wrap ((BitVec.ofInt IntKind.i64.bits (IntKind.i64.wrap ((BitVec.ofInt IntKind.i64.bits ((IntKind.i64.wrap ((IntKind.i64.wrap (a0.2.2 * 6364136223846793005))+1442695040888963407)).fdiv (2 ^ (min (33:Int).toNat IntKind.i64.bits))) ^^^ BitVec.ofInt IntKind.i64.bits ((IntKind.i64.wrap ((IntKind.i64.wrap (a0.2.2 * 6364136223846793005))+1442695040888963407)).fdiv (2 ^ (min (47:Int).toNat IntKind.i64.bits)))).toNat:Int)) &&& BitVec.ofInt IntKind.i64.bits 255).toNat:Int))+(IntKind.i64.wrap (nth a0.1 a0.2.1 0)))) &&& BitVec.ofInt IntKind.i64.bits 255).toNat:Int)),()),((a0.1,(IntKind.i64.wrap (a0.2.1+1)),(IntKind.i64.wrap ((IntKind.i64.wrap (a0.2.2 * 6364136223846793005))+1442695040888963407))),()))
    else none
  else
    some (((IntKind.i64.wrap ((BitVec.ofInt IntKind.i64.bits (IntKind.i64.wrap ((BitVec.ofInt IntKind.i64.bits ((IntKind.i64.wrap ((IntKind.i64.wrap (a0.2.2 * 6364136223846793005))+1442695040888963407)).fdiv (2 ^ (min (33:Int).toNat IntKind.i64.bits))) ^^^ BitVec.ofInt IntKind.i64.bits ((IntKind.i64.wrap ((IntKind.i64.wrap (a0.2.2 * 6364136223846793005))+1442695040888963407)).fdiv (2 ^ (min (47:Int).toNat IntKind.i64.bits)))).toNat:Int)) &&& BitVec.ofInt IntKind.i64.bits 255).toNat:Int)),()),((a0.1,a0.2.1,(IntKind.i64.wrap ((IntKind.i64.wrap (a0.2.2 * 6364136223846793005))+1442695040888963407))),()))
theorem yVI (x:InD ylh):zjH ⟨yF3,58,yOo⟩ Tryz.f234.results.toList yFs ylh yqL x=yaL x.1:=by kernel_rfl
theorem yRc:ConOk Tryz.prog 234 ⟨ylh,yqL,fun x=>yaL x.1⟩:=zkh (yLW) Tryz.func234 (by kernel_rfl) (by kernel_rfl) Tryz.ntmps234.symm (by decide) (fun x r h=>(yVI x).trans h)
def yBR:Con:=⟨ylh,yqL,fun x=>yaL x.1⟩
theorem yUs:ConOk Tryz.prog 234 yBR:=yRc
theorem yY2 (x:Int):0≤IntKind.i64.wrap ((BitVec.ofInt IntKind.i64.bits x &&& BitVec.ofInt IntKind.i64.bits 255).toNat:Int)∧IntKind.i64.wrap ((BitVec.ofInt IntKind.i64.bits x &&& BitVec.ofInt IntKind.i64.bits 255).toNat:Int)≤255:=by
  have h:(BitVec.ofInt IntKind.i64.bits x &&& BitVec.ofInt IntKind.i64.bits 255).toNat≤255:=by
    rw [BitVec.toNat_and]
    exact Nat.le_trans Nat.and_le_right (by decide)
  rw [wr (by omega) (by omega)]
  omega
theorem yIK (u:List Int×Int×Int) (h:yI u): ∃ (r:Int) (u':List Int×Int×Int),yaL u=some ((r,()),(u',()))∧(0≤r∧r≤255)∧yI u':=by
  unfold yaL
  by_cases h1:u.2.1 < (u.1.length:Int)
  · rw [zjI h1,zjP.2 ⟨h.1,h1⟩]
    refine ⟨_,_,rfl,yY2 _,?_,h.2⟩
    show 0≤IntKind.i64.wrap (u.2.1+1)
    have:=h.1; have:=h.2
    rw [wr (by omega) (by omega)]; omega
  · rw [zkm (Int.not_lt.1 h1)]
    exact ⟨_,_,rfl,yY2 _,h⟩
end
section
def yCX:Code:=(Tryz.f150.body).getD .skip
def yDG:Env:=zki TT [(234,yBR)] []
theorem yJG:FrOk Tryz.prog ⟨yDG,31,fun _=>none⟩ yCX:=zkp yc yd ⟨yUs,trivial⟩
def yK8:Nat→Option Seg:=fun _=>none
abbrev yjk:List Par:= [.pt tU .fz,.rd tI]
abbrev yoK:List OT:= [⟨false,tI,.fz⟩]
def yb (a0:dU) (a1:Int):Option (ResD yoK×MutD yjk) :=
  bif (leb a1 0) then
    some ((0,()),(a0,()))
  else
    bif (leb a1 256) then
      bnd (yaL a0) fun r1 =>
      bif (a1 !=0) then
        some (((r1.1.1.tmod a1),()),(r1.2.1,()))
      else none
    else
      bnd (yaL a0) fun r2 =>
      bnd (yaL r2.2.1) fun r3 =>
      bnd (yaL r3.2.1) fun r4 =>
      bif (a1 !=0) then
        some ((((IntKind.i64.wrap ((IntKind.i64.wrap ((IntKind.i64.wrap (r2.1.1 * 65536))+(IntKind.i64.wrap (r3.1.1 * 256))))+r4.1.1)).tmod a1),()),(r4.2.1,()))
      else none
theorem yST (x:InD yjk):zjH ⟨yDG,31,yK8⟩ Tryz.f150.results.toList yCX yjk yoK x=yb x.1 x.2.1:=by kernel_rfl
theorem yNy:ConOk Tryz.prog 150 ⟨yjk,yoK,fun x=>yb x.1 x.2.1⟩:=zkh (yJG) Tryz.func150 (by kernel_rfl) (by kernel_rfl) Tryz.ntmps150.symm (by decide) (fun x r h=>(yST x).trans h)
def yC:Con:=⟨yjk,yoK,fun x=>yb x.1 x.2.1⟩
theorem yM:ConOk Tryz.prog 150 yC:=yNy
theorem yB (u:List Int×Int×Int) (n:Int) (h:yI u): ∃ (r:Int) (u':List Int×Int×Int),yb u n=some ((r,()),(u',()))∧(0≤r∧(0 < n→r < n)∧(n≤0→r=0))∧yI u':=by
  unfold yb
  by_cases h0:n≤0
  · rw [zk0 h0]
    exact ⟨_,_,rfl,⟨Int.le_refl _,fun h=>absurd h0 (by omega),fun _=>rfl⟩,h⟩
  · have hn:(n !=0)=true:=bne_iff_ne.2 (by omega)
    have key: ∀ x:Int,0≤x→0≤x.tmod n∧(0 < n→x.tmod n < n)∧(n≤0→x.tmod n=0):=fun x hx =>
      ⟨Int.tmod_nonneg n hx,fun hp=>Int.tmod_lt_of_pos x hp,fun hp=>absurd hp h0⟩
    rw [zkZ (by omega)]
    by_cases h1:n≤256
    · rw [zk0 h1]
      obtain ⟨r1,u1,e1,q1,d1⟩:=yIK u h
      rw [e1,zkX,zkY,zky,hn]
      exact ⟨_,_,rfl,key r1 q1.1,d1⟩
    · rw [zkZ (by omega)]
      obtain ⟨r1,u1,e1,q1,d1⟩:=yIK u h
      obtain ⟨r2,u2,e2,q2,d2⟩:=yIK u1 d1
      obtain ⟨r3,u3,e3,q3,d3⟩:=yIK u2 d2
      simp only [e1,e2,e3,zkX,zky,hn,zkY]
      refine ⟨_,_,rfl,key _ ?_,d3⟩
      rw [wr (show -9223372036854775808≤r1 * 65536 by omega) (by omega),wr (show -9223372036854775808≤r2 * 256 by omega) (by omega),wr (show -9223372036854775808≤r1 * 65536+r2 * 256 by omega) (by omega),wr (by omega) (by omega)]
      omega
end
section
def yFr:Code:=(Tryz.f160.body).getD .skip
def yF2:Env:=zki TT [] []
theorem yLV:FrOk Tryz.prog ⟨yF2,8,fun _=>none⟩ yFr:=zkp yc yd trivial
def yOn:Nat→Option Seg:=fun _=>none
abbrev ylg:List Par:= [.rd tI]
abbrev yqK:List OT:= [⟨false,tI,.fz⟩]
def yt7 (a0:Int):Option (ResD yqK×MutD ylg) :=
  bif (ltb a0 0) then
    some (((-1),()),())
  else
    some (((IntKind.i64.wrap (2+(a0.tmod 4))),()),())
theorem yVH (x:InD ylg):zjH ⟨yF2,8,yOn⟩ Tryz.f160.results.toList yFr ylg yqK x=yt7 x.1:=by kernel_rfl
theorem yRb:ConOk Tryz.prog 160 ⟨ylg,yqK,fun x=>yt7 x.1⟩:=zkh (yLV) Tryz.func160 (by kernel_rfl) (by kernel_rfl) Tryz.ntmps160.symm (by decide) (fun x r h=>(yVH x).trans h)
def yab (a0:Int):Int :=
  bif (ltb a0 0) then
    (-1)
  else
    (IntKind.i64.wrap (2+(a0.tmod 4)))
def yBQ:Con:=⟨ylg,yqK,fun x=>(fun n=>some ((n,()),())) (yab x.1)⟩
theorem yTz (a0:Int):yt7 a0=(fun n=>some ((n,()),())) (yab a0):=zkS (p:=fun (n:Int)=>((n,()),())) (zkx (p:=fun (n:Int)=>((n,()),())) rfl rfl)
theorem yUr:ConOk Tryz.prog 160 yBQ:=(yRb).mono (fun x r _ h=>(yTz x.1).trans h)
end
section
def yFp:Code:=(Tryz.f48.body).getD .skip
def yF0:Env:=zki TT [(135,yq)] []
theorem yLR:FrOk Tryz.prog ⟨yF0,34,fun _=>none⟩ yFp:=zkp yc yd ⟨yu,trivial⟩
def yOl:Nat→Option Seg:=fun _=>none
abbrev ygO:List Par:= [.rd tA,.rd tI,.rd tI]
abbrev yqH:List OT:= [⟨false,tB,.fz⟩]
def ym7 (a0:dA) (a1:Int) (a2:Int):Option (ResD yqH×MutD ygO) :=
  let r1:=ya a1 0 (IntKind.i64.wrap ((a0.2.2.1.length:Int) - 1))
  bif r1 then
    bif (inb a1 a0.2.2.1.length) then
      bif (!((((nth a0.2.2.1 a1 ([],[],false,[])).2).2).1)) then
        bif (!(a1 !=a0.2.2.2.1)) then
          some (((ltb a2 a0.2.2.2.2.1),()),())
        else
          some ((true,()),())
      else
        some ((false,()),())
    else none
  else
    some ((false,()),())
theorem yVE (x:InD ygO):zjH ⟨yF0,34,yOl⟩ Tryz.f48.results.toList yFp ygO yqH x=ym7 x.1 x.2.1 x.2.2.1:=by kernel_rfl
theorem yQ8:ConOk Tryz.prog 48 ⟨ygO,yqH,fun x=>ym7 x.1 x.2.1 x.2.2.1⟩:=zkh (yLR) Tryz.func48 (by kernel_rfl) (by kernel_rfl) Tryz.ntmps48.symm (by decide) (fun x r h=>(yVE x).trans h)
def ydb (a0:dA) (a1 a2:Int):Bool:=yby a0 a1 a2
theorem yTw (a0:dA) (a1 a2:Int) (hk:zi9 ygO (a0,a1,a2,())):ym7 a0 a1 a2=(fun n=>some ((n,()),())) (ydb a0 a1 a2):=by
  have hb:a0.2.2.1.length * 80≤2 ^ 47:=hk.1.2.2.1.1
  unfold ym7 ydb yby noMem
  rw [yp9 (show a0.2.2.1.length≤1152921504606846976 by omega)]
  cases inb a1 a0.2.2.1.length
  · rfl
  · cases (nth a0.2.2.1 a1 ([],[],false,[])).2.2.1<;>cases (a1 !=a0.2.2.2.1)<;>rfl
def ytz:Con:=⟨ygO,yqH,fun x=>(fun n=>some ((n,()),())) (ydb x.1 x.2.1 x.2.2.1)⟩
theorem yEn:ConOk Tryz.prog 48 ytz:=(yQ8).mono (fun x r hk h=>(yTw x.1 x.2.1 x.2.2.1 hk).trans h)
end
end
end Go.Tf
