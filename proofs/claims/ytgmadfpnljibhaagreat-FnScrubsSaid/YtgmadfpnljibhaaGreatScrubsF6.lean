/- Functions of the program, and what they come to. -/
import Derived.Test.YtgmadfpnljibhaaGreatScrubsF5
namespace Go.Tf
noncomputable section
open Go.Proofs
set_option synthInstance.maxHeartbeats 400000
set_option synthInstance.maxSize 10000
set_option linter.unusedVariables false
set_option linter.unusedSimpArgs false
set_option maxRecDepth 100000
section
def yCT:Code:=(Tryz.f178.body).getD .skip
def yDC:Env:=zki TT [(121,yey),(135,yq)] []
theorem yJA:FrOk Tryz.prog ⟨yDC,16,fun _=>none⟩ yCT:=zkp yc yd ⟨yj9,yu,trivial⟩
def yK4:Nat→Option Seg:=fun _=>none
abbrev yft:List Par:= [.rd tG,.rd tI]
abbrev yoH:List OT:= [⟨false,tI,.fz⟩]
def ykK (a0:dG) (a1:Int):Option (ResD yoH×MutD yft) :=
  let r1:=yf a0
  let r2:=ya a1 0 (IntKind.i64.wrap (r1 - 1))
  bif (!r2) then
    some (((-1),()),())
  else
    bif ((IntKind.i64.wrap (a0.1 - 1)) !=0) then
      some (((a1.tmod (IntKind.i64.wrap (a0.1 - 1))),()),())
    else none
theorem ySO (x:InD yft):zjH ⟨yDC,16,yK4⟩ Tryz.f178.results.toList yCT yft yoH x=ykK x.1 x.2.1:=by kernel_rfl
theorem yNt:ConOk Tryz.prog 178 ⟨yft,yoH,fun x=>ykK x.1 x.2.1⟩:=zkh (yJA) Tryz.func178 (by kernel_rfl) (by kernel_rfl) Tryz.ntmps178.symm (by decide) (fun x r h=>(ySO x).trans h)
def ydE (a0:dG) (a1:Int):Int:=ybm a0 a1
theorem yQG (a0:dG) (a1:Int) (hk:zi9 yft (a0,a1,())):ykK a0 a1=(fun n=>some ((n,()),())) (ydE a0 a1):=by
  unfold ykK ydE ybm
  simp only [yOR]
  cases hb:blkOk a0 a1
  · rfl
  · obtain ⟨h1,h2,h3⟩:=ykg hb
    have h4:=yg.1 h1
    rw [wr (show -9223372036854775808≤a0.1 - 1 by omega) (by omega),show (a0.1 - 1 !=0)=true from bne_iff_ne.2 (by omega)]; rfl
def yrv:Con:=⟨yft,yoH,fun x=>(fun n=>some ((n,()),())) (ydE x.1 x.2.1)⟩
theorem yCm:ConOk Tryz.prog 178 yrv:=(yNt).mono (fun x r hk h=>(yQG x.1 x.2.1 hk).trans h)
end
section
def ynu:Code:=(Tryz.f246.body).getD .skip
def ysJ:Env:=zki TT [] [(4096,(.pr .fz .fz)),(28800,(.pr .fz .fz)),(41472,(.pr .fz .fz)),(49280,(.pr .fz .fz))]
theorem yP5:FrOk Tryz.prog ⟨ysJ,67,fun _=>none⟩ ynu:=zkp yc yd trivial
def yDu:Nat→Option Seg:=fun _=>none
def ycA:Shape:=⟨[(0,false,[.ptr 1000000000 0]),(3,false,[.ptr 0 0]),(4,false,[.at 800000000]),(5,false,[.bool]),(6,false,[.int .i64])],[(0,[.int .i64,.fz tI]),(1000000000,[.int .i64,.int .i64,.int .i64,.at 800000001,.int .i64,.int .i64,.int .i64,.int .i64,.int .i64,.at 800000002,.int .i64,.bool,.bool])],[(800000000,tW,(.pr .fz .fz)),(800000001,tM,(.pr (.ow .fz) (.pr (.ow (.pr .fz .fz)) (.pr .fz (.ow .fz))))),(800000002,tW,(.pr .fz .fz))]⟩
def yhK:Shape:=⟨[(0,false,[.ptr 1000000000 0]),(3,false,[.ptr 0 0]),(4,false,[.at 800000000]),(5,false,[.cb false]),(6,false,[.ci .i64 0])],[(0,[.int .i64,.fz tI]),(1000000000,[.int .i64,.int .i64,.int .i64,.at 800000001,.int .i64,.int .i64,.int .i64,.int .i64,.int .i64,.at 800000002,.int .i64,.bool,.bool])],[(800000000,tW,(.pr .fz .fz)),(800000001,tM,(.pr (.ow .fz) (.pr (.ow (.pr .fz .fz)) (.pr .fz (.ow .fz))))),(800000002,tW,(.pr .fz .fz))]⟩
def yht:Shape:=⟨[(0,false,[.ptr 1000000000 0]),(3,false,[.ptr 0 0]),(4,false,[.at 800000000]),(5,false,[.bool])],[(0,[.int .i64,.fz tI]),(1000000000,[.int .i64,.int .i64,.int .i64,.at 800000001,.int .i64,.int .i64,.int .i64,.int .i64,.int .i64,.at 800000002,.int .i64,.bool,.bool])],[(800000000,tW,(.pr .fz .fz)),(800000001,tM,(.pr (.ow .fz) (.pr (.ow (.pr .fz .fz)) (.pr .fz (.ow .fz))))),(800000002,tW,(.pr .fz .fz))]⟩
def ymO:Shape:=⟨[],[],[]⟩
abbrev yrQ (v0:Bool) (v1:Int) (v2:dW) (v3:dA) (v4:List dW):(ycA).X:=((((),()),((),()),((),()),(v0,()),(v1,()),()),((v2.1,v2.2,()),(v3.1,v3.2.1.1,v3.2.1.2,(),v3.2.2.2.1,v3.2.2.2.2.1,v3.2.2.2.2.2.1,v3.2.2.2.2.2.2.1,v3.2.2.2.2.2.2.2.1,(),v3.2.2.2.2.2.2.2.2.2.1,v3.2.2.2.2.2.2.2.2.2.2.1,v3.2.2.2.2.2.2.2.2.2.2.2,()),()),(v4,v3.2.2.1,v3.2.2.2.2.2.2.2.2.1,()))
abbrev yMN (v0:dW) (v1:dA) (v2:List dW):(yhK).X:=((((),()),((),()),((),()),((),()),((),()),()),((v0.1,v0.2,()),(v1.1,v1.2.1.1,v1.2.1.2,(),v1.2.2.2.1,v1.2.2.2.2.1,v1.2.2.2.2.2.1,v1.2.2.2.2.2.2.1,v1.2.2.2.2.2.2.2.1,(),v1.2.2.2.2.2.2.2.2.2.1,v1.2.2.2.2.2.2.2.2.2.2.1,v1.2.2.2.2.2.2.2.2.2.2.2,()),()),(v2,v1.2.2.1,v1.2.2.2.2.2.2.2.2.1,()))
abbrev yMx (v0:Bool) (v1:dW) (v2:dA) (v3:List dW):(yht).X:=((((),()),((),()),((),()),(v0,()),()),((v1.1,v1.2,()),(v2.1,v2.2.1.1,v2.2.1.2,(),v2.2.2.2.1,v2.2.2.2.2.1,v2.2.2.2.2.2.1,v2.2.2.2.2.2.2.1,v2.2.2.2.2.2.2.2.1,(),v2.2.2.2.2.2.2.2.2.2.1,v2.2.2.2.2.2.2.2.2.2.2.1,v2.2.2.2.2.2.2.2.2.2.2.2,()),()),(v3,v2.2.2.1,v2.2.2.2.2.2.2.2.2.1,()))
def ysc (v0:Bool) (v1:Int) (v2:Int) (v3:List Int) (v4:Int) (v5:Int) (v6:Int) (v7:Int) (v8:Int) (v9:Int) (v10:Int) (v11:Int) (v12:Int) (v13:Bool) (v14:Bool) (v15:List dW) (v16:List dM) (v17:List dW):Option ((ycA).X ⊕ ((yht).X ⊕ (ymO).X)) :=
  bif (ltb v1 (v17.length:Int)) then
    bif (!v0) then
      bif (inb v1 v17.length) then
        bif (leb v2 ((nth v17 v1 (0,[])).1)) then
          bif (zj4 v15.length ([(v2,v3)]:List dW).length 32) then
            bif (inb v1 v17.length) then
              bif ((nth v17 v1 (0,[])).1 !=v2) then
                bif (inb v1 v17.length) then
                  bif (zj4 (v15++([(v2,v3)]:List dW)).length ([(nth v17 v1 (0,[]))]:List dW).length 32) then
                    some (.inl ((((),()),((),()),((),()),(true,()),((IntKind.i64.wrap (v1+1)),()),()),((v2,v3,()),(v4,v5,v6,(),v7,v8,v9,v10,v11,(),v12,v13,v14,()),()),(((v15++([(v2,v3)]:List dW))++([(nth v17 v1 (0,[]))]:List dW)),v16,v17,())))
                  else none
                else none
              else
                some (.inl ((((),()),((),()),((),()),(true,()),((IntKind.i64.wrap (v1+1)),()),()),((v2,v3,()),(v4,v5,v6,(),v7,v8,v9,v10,v11,(),v12,v13,v14,()),()),((v15++([(v2,v3)]:List dW)),v16,v17,())))
            else none
          else none
        else
          bif (inb v1 v17.length) then
            bif ((nth v17 v1 (0,[])).1 !=v2) then
              bif (inb v1 v17.length) then
                bif (zj4 v15.length ([(nth v17 v1 (0,[]))]:List dW).length 32) then
                  some (.inl ((((),()),((),()),((),()),(v0,()),((IntKind.i64.wrap (v1+1)),()),()),((v2,v3,()),(v4,v5,v6,(),v7,v8,v9,v10,v11,(),v12,v13,v14,()),()),((v15++([(nth v17 v1 (0,[]))]:List dW)),v16,v17,())))
                else none
              else none
            else
              some (.inl ((((),()),((),()),((),()),(v0,()),((IntKind.i64.wrap (v1+1)),()),()),((v2,v3,()),(v4,v5,v6,(),v7,v8,v9,v10,v11,(),v12,v13,v14,()),()),(v15,v16,v17,())))
          else none
      else none
    else
      bif (inb v1 v17.length) then
        bif ((nth v17 v1 (0,[])).1 !=v2) then
          bif (inb v1 v17.length) then
            bif (zj4 v15.length ([(nth v17 v1 (0,[]))]:List dW).length 32) then
              some (.inl ((((),()),((),()),((),()),(v0,()),((IntKind.i64.wrap (v1+1)),()),()),((v2,v3,()),(v4,v5,v6,(),v7,v8,v9,v10,v11,(),v12,v13,v14,()),()),((v15++([(nth v17 v1 (0,[]))]:List dW)),v16,v17,())))
            else none
          else none
        else
          some (.inl ((((),()),((),()),((),()),(v0,()),((IntKind.i64.wrap (v1+1)),()),()),((v2,v3,()),(v4,v5,v6,(),v7,v8,v9,v10,v11,(),v12,v13,v14,()),()),(v15,v16,v17,())))
      else none
  else
    some (.inr (.inl ((((),()),((),()),((),()),(v0,()),()),((v2,v3,()),(v4,v5,v6,(),v7,v8,v9,v10,v11,(),v12,v13,v14,()),()),(v15,v16,v17,()))))
def yc6 (x:(ycA).X):=ysc x.1.2.2.2.1.1 x.1.2.2.2.2.1.1 x.2.1.1.1 x.2.1.1.2.1 x.2.1.2.1.1 x.2.1.2.1.2.1 x.2.1.2.1.2.2.1 x.2.1.2.1.2.2.2.2.1 x.2.1.2.1.2.2.2.2.2.1 x.2.1.2.1.2.2.2.2.2.2.1 x.2.1.2.1.2.2.2.2.2.2.2.1 x.2.1.2.1.2.2.2.2.2.2.2.2.1 x.2.1.2.1.2.2.2.2.2.2.2.2.2.2.1 x.2.1.2.1.2.2.2.2.2.2.2.2.2.2.2.1 x.2.1.2.1.2.2.2.2.2.2.2.2.2.2.2.2.1 x.2.2.1 x.2.2.2.1 x.2.2.2.2.1
def yzj (x:(yhK).X):(ycA).X:=((((),()),((),()),((),()),(false,()),(0,()),()),((x.2.1.1.1,x.2.1.1.2.1,()),(x.2.1.2.1.1,x.2.1.2.1.2.1,x.2.1.2.1.2.2.1,(),x.2.1.2.1.2.2.2.2.1,x.2.1.2.1.2.2.2.2.2.1,x.2.1.2.1.2.2.2.2.2.2.1,x.2.1.2.1.2.2.2.2.2.2.2.1,x.2.1.2.1.2.2.2.2.2.2.2.2.1,(),x.2.1.2.1.2.2.2.2.2.2.2.2.2.2.1,x.2.1.2.1.2.2.2.2.2.2.2.2.2.2.2.1,x.2.1.2.1.2.2.2.2.2.2.2.2.2.2.2.2.1,()),()),(x.2.2.1,x.2.2.2.1,x.2.2.2.2.1,()))
def yBD:Code:=(zdI ynu 64 244).getD .skip
theorem yOP:zdI ynu 64 61=some (.block 0 (.loop yBD)):=by kernel_rfl
theorem yR4 (x:(ycA).X):zg7 ⟨ysJ,67,yDu⟩ 0 yBD 244 ycA yht ymO x=yc6 x:=by kernel_rfl
def yzB (x:(yhK).X):Nat:=(fun (u0:Int) (u1:List Int) (u2:Int) (u3:Int) (u4:Int) (u5:Int) (u6:Int) (u7:Int) (u8:Int) (u9:Int) (u10:Int) (u11:Bool) (u12:Bool) (u13:List dW) (u14:List dM) (u15:List dW)=>18446744073709551616) x.2.1.1.1 x.2.1.1.2.1 x.2.1.2.1.1 x.2.1.2.1.2.1 x.2.1.2.1.2.2.1 x.2.1.2.1.2.2.2.2.1 x.2.1.2.1.2.2.2.2.2.1 x.2.1.2.1.2.2.2.2.2.2.1 x.2.1.2.1.2.2.2.2.2.2.2.1 x.2.1.2.1.2.2.2.2.2.2.2.2.1 x.2.1.2.1.2.2.2.2.2.2.2.2.2.2.1 x.2.1.2.1.2.2.2.2.2.2.2.2.2.2.2.1 x.2.1.2.1.2.2.2.2.2.2.2.2.2.2.2.2.1 x.2.2.1 x.2.2.2.1 x.2.2.2.2.1
def ys0 (x:(yhK).X):Option ((yht).X ⊕ (ymO).X):=zr yc6 (yzB x) (yzj x)
def yAm:Seg:=⟨yhK,yht,ymO,ys0⟩
def yDv:Nat→Option Seg:=fun q=>bif Nat.beq q 61 then some yAm else yDu q
theorem yP6:FrOk Tryz.prog ⟨ysJ,67,yDv⟩ ynu:=(yP5).loop (sg:=yAm) ycA yzj (by decide) yOP yc6 yzB (by decide) (fun _=>rfl) (fun x r _ h=>h) yR4
abbrev yfT:List Par:= [.pt tA (.pr .fz (.pr (.pr .fz .fz) (.pr (.ow (.pr (.ow .fz) (.pr (.ow (.pr .fz .fz)) (.pr .fz (.ow .fz))))) (.pr .fz (.pr .fz (.pr .fz (.pr .fz (.pr .fz (.pr (.ow (.pr .fz .fz)) (.pr .fz (.pr .fz .fz))))))))))),.kp tW .fz]
abbrev ynR:List OT:= []
def ypd (a0:dA) (a1:dW):Option (ResD ynR×MutD yfT) :=
  zjw (ys0 ((((),()),((),()),((),()),((),()),((),()),()),((a1.1,a1.2,()),(a0.1,a0.2.1.1,a0.2.1.2,(),a0.2.2.2.1,a0.2.2.2.2.1,a0.2.2.2.2.2.1,a0.2.2.2.2.2.2.1,a0.2.2.2.2.2.2.2.1,(),a0.2.2.2.2.2.2.2.2.2.1,a0.2.2.2.2.2.2.2.2.2.2.1,a0.2.2.2.2.2.2.2.2.2.2.2,()),()),(([]:List dW),a0.2.2.1,a0.2.2.2.2.2.2.2.2.1,()))) (fun y0 =>
    bif (!y0.1.2.2.2.1.1) then
      bif (zj4 y0.2.2.1.length ([(y0.2.1.1.1,y0.2.1.1.2.1)]:List dW).length 32) then
        some ((),((y0.2.1.2.1.1,(y0.2.1.2.1.2.1,y0.2.1.2.1.2.2.1),y0.2.2.2.1,y0.2.1.2.1.2.2.2.2.1,y0.2.1.2.1.2.2.2.2.2.1,y0.2.1.2.1.2.2.2.2.2.2.1,y0.2.1.2.1.2.2.2.2.2.2.2.1,y0.2.1.2.1.2.2.2.2.2.2.2.2.1,(y0.2.2.1++([(y0.2.1.1.1,y0.2.1.1.2.1)]:List dW)),y0.2.1.2.1.2.2.2.2.2.2.2.2.2.2.1,y0.2.1.2.1.2.2.2.2.2.2.2.2.2.2.2.1,y0.2.1.2.1.2.2.2.2.2.2.2.2.2.2.2.2.1),()))
      else none
    else
      some ((),((y0.2.1.2.1.1,(y0.2.1.2.1.2.1,y0.2.1.2.1.2.2.1),y0.2.2.2.1,y0.2.1.2.1.2.2.2.2.1,y0.2.1.2.1.2.2.2.2.2.1,y0.2.1.2.1.2.2.2.2.2.2.1,y0.2.1.2.1.2.2.2.2.2.2.2.1,y0.2.1.2.1.2.2.2.2.2.2.2.2.1,y0.2.2.1,y0.2.1.2.1.2.2.2.2.2.2.2.2.2.2.1,y0.2.1.2.1.2.2.2.2.2.2.2.2.2.2.2.1,y0.2.1.2.1.2.2.2.2.2.2.2.2.2.2.2.2.1),()))) (fun y0 =>
    none)
theorem yXp (x:InD yfT):zjH ⟨ysJ,67,yDv⟩ Tryz.f246.results.toList ynu yfT ynR x=ypd x.1 x.2.1:=by kernel_rfl
theorem yUe:ConOk Tryz.prog 246 ⟨yfT,ynR,fun x=>ypd x.1 x.2.1⟩:=zkh (yP6) Tryz.func246 (by kernel_rfl) (by kernel_rfl) Tryz.ntmps246.symm (by decide) (fun x r h=>(yXp x).trans h)
def ytU (a0:dA) (a1:dW):dA:=yz5 a0 (yIx a0.2.2.2.2.2.2.2.2.1 a1)
def yz3 (a0:dA) (a1:dW):Bool:=decide (a0.2.2.2.2.2.2.2.2.1.length≤1000)
theorem yWm (a0:dA) (a1:dW) (hk:zi9 yfT (a0,a1,())) (hq:yz3 a0 a1=true):ypd a0 a1=(fun n=>some ((),(n,()))) (ytU a0 a1):=by
  have hq:=of_decide_eq_true hq
  have h1:=zkk (step:=yc6) a0.2.2.2.2.2.2.2.2.1 (0,[]) (fun i s=>yrQ s.1 i a1 a0 s.2) (ybA a1) (fun i s=>s.2.length≤i * 2) (fun s=> .inl (yMx s.1 a1 a0 s.2)) (fun i s hi hs=>by
    constructor
    · simp only [yc6,yrQ,ysc,zjI (show (i:Int) < a0.2.2.2.2.2.2.2.2.1.length by omega),cond_true,wr (show -9223372036854775808≤(i:Int)+1 by omega) (by omega),Int.natCast_add,Int.natCast_one,Int.toNat_natCast,zkO hi,zkV,zjW,ybA,zkw.2 (show (s.2.length+ [a1].length) * 32≤140737488355328 by simp only [List.length_cons,List.length_nil]; omega),
        show ∀ x:dW,zj4 s.2.length [x].length 32=true from fun x=>zkw.2 (by simp only [List.length_cons,List.length_nil]; omega),show ∀ x:dW,zj4 (s.2++ [a1]).length [x].length 32=true from fun x=>zkw.2 (by simp only [List.length_append,List.length_cons,List.length_nil]; omega)]
      cases s.1<;>cases leb a1.1 (a0.2.2.2.2.2.2.2.2.1.getD i (0,[])).1<;>cases ((a0.2.2.2.2.2.2.2.2.1.getD i (0,[])).1 !=a1.1)<;>simp
    · unfold ybA
      have: ∀ (b c:Bool) (x:dW),((bif b then s.2++ [a1] else s.2)++(bif c then [x] else [])).length≤(i+1) * 2:=fun b c x=>by
        cases b<;>cases c<;>simp<;>omega
      exact this _ _ _) (fun s hs=>by simp only [yc6,yrQ,ysc,zkm (Int.le_refl _),cond_false]) (false,[]) (Nat.zero_le _) 18446744073709551616 (by omega)
  have hl:((a0.2.2.2.2.2.2.2.2.1.foldl (ybA a1) (false,[])).2).length≤2000:=by
    have: ∀ (l:List dW) (s:Bool×List dW),((l.foldl (ybA a1) s).2).length≤s.2.length+l.length * 2:=by
      intro l
      induction l with
      | nil=>intro s; simp
      | cons x t ih =>
        intro s
        rw [List.foldl_cons]
        have:=ih (ybA a1 s x)
        have h2:(ybA a1 s x).2.length≤s.2.length+2:=by
          unfold ybA
          cases (!s.1&&leb a1.1 x.1)<;>cases (x.1 !=a1.1)<;>simp
        simp only [List.length_cons]; omega
    have:=this a0.2.2.2.2.2.2.2.2.1 (false,[])
    simp only [List.length_nil]at this
    omega
  unfold ypd ytU yIx
  refine (congrArg (fun z=>zjw z _ _) (show ys0 (yMN a1 a0 [])=_ from h1)).trans ?_
  generalize a0.2.2.2.2.2.2.2.2.1.foldl (ybA a1) (false,[])=R at hl
  simp only [zkJ,zkV]
  cases hr:R.1
  · rw [zkw.2 (show (R.2.length+ [a1].length) * 32≤140737488355328 by simp only [List.length_cons,List.length_nil]; omega)]; rfl
  · rfl
def ytW (a0:dA) (a1:dW):Option (ResD ynR×MutD yfT):=bif yz3 a0 a1 then (fun n=>some ((),(n,()))) (ytU a0 a1) else none
theorem yWJ (a0:dA) (a1:dW) (h:yz3 a0 a1=true):ytW a0 a1=(fun n=>some ((),(n,()))) (ytU a0 a1):=by unfold ytW; rw [h]; rfl
def yD5:Con:=⟨yfT,ynR,fun x=>ytW x.1 x.2.1⟩
theorem yWG:ConOk Tryz.prog 246 yD5:=(yUe).mono (fun x r hk h=>zkW h (fun hq=>yWm x.1 x.2.1 hk hq))
end
section
def yG5:Code:=(Tryz.f182.body).getD .skip
def yHm:Env:=zki TT [(176,ypy),(177,ypv),(178,yrv),(246,yD5)] []
theorem yP7:FrOk Tryz.prog ⟨yHm,40,fun _=>none⟩ yG5:=zkp yc yd ⟨yzX,yzU,yCm,yWG,trivial⟩
def ySp:Nat→Option Seg:=fun _=>none
abbrev yfU:List Par:= [.pt tA (.pr .fz (.pr (.pr .fz .fz) (.pr (.ow (.pr (.ow .fz) (.pr (.ow (.pr .fz .fz)) (.pr .fz (.ow .fz))))) (.pr .fz (.pr .fz (.pr .fz (.pr .fz (.pr .fz (.pr (.ow (.pr .fz .fz)) (.pr .fz (.pr .fz .fz))))))))))),.rd tI,.rd tI]
abbrev ynS:List OT:= [⟨false,tI,.fz⟩]
def ype (a0:dA) (a1:Int) (a2:Int):Option (ResD ynS×MutD yfU) :=
  let r1:=ycJ a0.2.1 a1
  bnd (yic a0 r1) fun r2 =>
  bif (!r2.1.2.1) then
    some ((5,()),(a0,()))
  else
    let r3:=ydE a0.2.1 a1
    bif (inb r3 r2.1.1.length) then
      bnd (ytW a0 (r1,(r2.1.1.set (r3).toNat a2))) fun r4 =>
      some ((0,()),(r4.2.1,()))
    else none
theorem yXq (x:InD yfU):zjH ⟨yHm,40,ySp⟩ Tryz.f182.results.toList yG5 yfU ynS x=ype x.1 x.2.1 x.2.2.1:=by kernel_rfl
theorem yUf:ConOk Tryz.prog 182 ⟨yfU,ynS,fun x=>ype x.1 x.2.1 x.2.2.1⟩:=zkh (yP7) Tryz.func182 (by kernel_rfl) (by kernel_rfl) Tryz.ntmps182.symm (by decide) (fun x r h=>(yXq x).trans h)
def setOne (a:dA) (b n:Int):Int×dA:=bif (yK a (yQ a.2.1 b)).2 then (0,yz5 a (yIx a.2.2.2.2.2.2.2.2.1 (yQ a.2.1 b,(yK a (yQ a.2.1 b)).1.set (ybm a.2.1 b).toNat n))) else (5,a)
def ytV (a0:dA) (a1 a2:Int):Int×dA:=setOne a0 a1 a2
def yn9 (a0:dA) (a1 a2:Int):Bool:=yo a0&&(blkOk a0.2.1 a1&&decide (a0.2.2.2.2.2.2.2.2.1.length≤1000))
theorem yWn (a0:dA) (a1 a2:Int) (hk:zi9 yfU (a0,a1,a2,())) (hq:yn9 a0 a1 a2=true):ype a0 a1 a2=(fun n=>some ((n.1,()),(n.2,()))) (ytV a0 a1 a2):=by
  simp only [yn9,Bool.and_eq_true]at hq
  have hs:=yqg hq.2.1
  obtain ⟨hg,_,hi⟩:=ykg hq.2.1
  unfold ype ytV setOne
  simp only [ycJ,ydE]
  rw [yzY a0 (yQ a0.2.1 a1) hs]
  simp only [zky,yeC]
  cases hn:(yK a0 (yQ a0.2.1 a1)).2
  · rfl
  · have hl:=ylT hq.1 hs hn
    have hx:ybm a0.2.1 a1=a1.tmod (a0.2.1.1 - 1):=by unfold ybm; rw [hq.2.1]; rfl
    rw [zjP.2 (show 0≤ybm a0.2.1 a1∧ybm a0.2.1 a1 < (yK a0 (yQ a0.2.1 a1)).1.length by omega),yWJ _ _ hq.2.2]
    rfl
def yed (a0:dA) (a1:Int) (a2:Int):Option (ResD ynS×MutD yfU):=bif yn9 a0 a1 a2 then (fun n=>some ((n.1,()),(n.2,()))) (ytV a0 a1 a2) else none
theorem yWK (a0:dA) (a1:Int) (a2:Int) (h:yn9 a0 a1 a2=true):yed a0 a1 a2=(fun n=>some ((n.1,()),(n.2,()))) (ytV a0 a1 a2):=by unfold yed; rw [h]; rfl
def yD6:Con:=⟨yfU,ynS,fun x=>yed x.1 x.2.1 x.2.2.1⟩
theorem yWH:ConOk Tryz.prog 182 yD6:=(yUf).mono (fun x r hk h=>zkW h (fun hq=>yWn x.1 x.2.1 x.2.2.1 hk hq))
end
section
def yG3:Code:=(Tryz.f209.body).getD .skip
def yHk:Env:=zki TT [(150,yC)] []
theorem yPZ:FrOk Tryz.prog ⟨yHk,10,fun _=>none⟩ yG3:=zkp yc yd ⟨yM,trivial⟩
def ySn:Nat→Option Seg:=fun _=>none
abbrev ynO:List Par:= [.pt tU .fz]
abbrev ytq:List OT:= [⟨false,tG,(.pr .fz .fz)⟩]
def yfM (a0:dU):Option (ResD ytq×MutD ynO) :=
  bnd (yb a0 3) fun r1 =>
  bnd (yb r1.2.1 4) fun r2 =>
  some ((((IntKind.i64.wrap (3+r1.1.1)),(IntKind.i64.wrap (1+r2.1.1))),()),(r2.2.1,()))
theorem yXl (x:InD ynO):zjH ⟨yHk,10,ySn⟩ Tryz.f209.results.toList yG3 ynO ytq x=yfM x.1:=by kernel_rfl
theorem yUa:ConOk Tryz.prog 209 ⟨ynO,ytq,fun x=>yfM x.1⟩:=zkh (yPZ) Tryz.func209 (by kernel_rfl) (by kernel_rfl) Tryz.ntmps209.symm (by decide) (fun x r h=>(yXl x).trans h)
def yD2:Con:=⟨ynO,ytq,fun x=>yfM x.1⟩
theorem yWD:ConOk Tryz.prog 209 yD2:=yUa
theorem yZG (u:dU) (h:yI u): ∃ (g:dG) (u':dU),yfM u=some ((g,()),(u',()))∧ye g=true∧yI u':=by
  unfold yfM
  obtain ⟨r1,u1,e1,q1,d1⟩:=yB u 3 h
  obtain ⟨r2,u2,e2,q2,d2⟩:=yB u1 4 d1
  simp only [e1,e2,zky]
  refine ⟨_,_,rfl,?_,d2⟩
  have:=q1.2.1 (by omega); have:=q2.2.1 (by omega); have:=q1.1; have:=q2.1
  rw [wr (by omega) (by omega),wr (by omega) (by omega)]
  exact yg.2 ⟨⟨by show 3≤3+r1; omega,by show 3+r1≤5; omega⟩,by show 1≤1+r2; omega,by show 1+r2≤8; omega⟩
end
section
def yKM:Code:=(Tryz.f263.body).getD .skip
def yKO:Env:=zki TT [] []
theorem yS9:FrOk Tryz.prog ⟨yKO,31,fun _=>none⟩ yKM:=zkp yc yd trivial
def yVm:Nat→Option Seg:=fun _=>none
abbrev yp3:List Par:= [.pt tA (.pr .fz (.pr (.pr .fz .fz) (.pr (.ow (.pr (.ow .fz) (.pr (.ow (.pr .fz .fz)) (.pr .fz (.ow .fz))))) (.pr .fz (.pr .fz (.pr .fz (.pr .fz (.pr .fz (.pr (.ow (.pr .fz .fz)) (.pr .fz (.pr .fz .fz)))))))))))]
abbrev yvx:List OT:= [⟨false,tB,.fz⟩]
def ywH (a0:dA):Option (ResD yvx×MutD yp3) :=
  bif a0.2.2.2.2.2.2.2.2.2.2.1 then
    some ((false,()),(a0,()))
  else
    bif (a0.2.2.2.2.2.2.2.2.2.1==0) then
      some ((false,()),((a0.1,a0.2.1,a0.2.2.1,a0.2.2.2.1,a0.2.2.2.2.1,a0.2.2.2.2.2.1,a0.2.2.2.2.2.2.1,a0.2.2.2.2.2.2.2.1,a0.2.2.2.2.2.2.2.2.1,(-1),true,a0.2.2.2.2.2.2.2.2.2.2.2),()))
    else
      bif (ltb 0 a0.2.2.2.2.2.2.2.2.2.1) then
        some ((true,()),((a0.1,a0.2.1,a0.2.2.1,a0.2.2.2.1,a0.2.2.2.2.1,a0.2.2.2.2.2.1,a0.2.2.2.2.2.2.1,a0.2.2.2.2.2.2.2.1,a0.2.2.2.2.2.2.2.2.1,(IntKind.i64.wrap (a0.2.2.2.2.2.2.2.2.2.1 - 1)),a0.2.2.2.2.2.2.2.2.2.2),()))
      else
        some ((true,()),(a0,()))
theorem yYd (x:InD yp3):zjH ⟨yKO,31,yVm⟩ Tryz.f263.results.toList yKM yp3 yvx x=ywH x.1:=by kernel_rfl
theorem yWt:ConOk Tryz.prog 263 ⟨yp3,yvx,fun x=>ywH x.1⟩:=zkh (yS9) Tryz.func263 (by kernel_rfl) (by kernel_rfl) Tryz.ntmps263.symm (by decide) (fun x r h=>(yYd x).trans h)
def yqd (a0:dA):Bool×dA :=
  bif a0.2.2.2.2.2.2.2.2.2.2.1 then
    (false,a0)
  else
    bif (a0.2.2.2.2.2.2.2.2.2.1==0) then
      (false,(a0.1,a0.2.1,a0.2.2.1,a0.2.2.2.1,a0.2.2.2.2.1,a0.2.2.2.2.2.1,a0.2.2.2.2.2.2.1,a0.2.2.2.2.2.2.2.1,a0.2.2.2.2.2.2.2.2.1,(-1),true,a0.2.2.2.2.2.2.2.2.2.2.2))
    else
      bif (ltb 0 a0.2.2.2.2.2.2.2.2.2.1) then
        (true,(a0.1,a0.2.1,a0.2.2.1,a0.2.2.2.1,a0.2.2.2.2.1,a0.2.2.2.2.2.1,a0.2.2.2.2.2.2.1,a0.2.2.2.2.2.2.2.1,a0.2.2.2.2.2.2.2.2.1,(IntKind.i64.wrap (a0.2.2.2.2.2.2.2.2.2.1 - 1)),a0.2.2.2.2.2.2.2.2.2.2))
      else
        (true,a0)
def yww:Con:=⟨yp3,yvx,fun x=>(fun n=>some ((n.1,()),(n.2,()))) (yqd x.1)⟩
theorem yXK (a0:dA):ywH a0=(fun n=>some ((n.1,()),(n.2,()))) (yqd a0):=zkS (p:=fun (n:Bool×dA)=>((n.1,()),(n.2,()))) (zkx (p:=fun (n:Bool×dA)=>((n.1,()),(n.2,()))) rfl (zkx (p:=fun (n:Bool×dA)=>((n.1,()),(n.2,()))) rfl (zkx (p:=fun (n:Bool×dA)=>((n.1,()),(n.2,()))) rfl rfl)))
theorem yIv:ConOk Tryz.prog 263 yww:=(yWt).mono (fun x r _ h=>(yXK x.1).trans h)
theorem yR6 (a:dA):yqd a=yZ a:=by kernel_rfl
end
section
def yc8:Code:=(Tryz.f152.body).getD .skip
def ygG:Env:=zki TT [] [(21056,.fz),(21120,.fz),(37952,(.pr .fz .fz)),(38016,(.pr .fz .fz))]
theorem yL1:FrOk Tryz.prog ⟨ygG,60,fun _=>none⟩ yc8:=zkp yc yd trivial
def yAR:Nat→Option Seg:=fun _=>none
def ybJ:Shape:=⟨[(1,false,[.ptr 0 0]),(2,false,[.ptr 64 0]),(3,false,[.ptr 4544 0]),(4,false,[.int .i64])],[(0,[.br tL,.br tW,.bool,.br tI]),(64,[.nil,.nil,.bool,.nil]),(4544,[.at 800000001,.nil,.bool,.at 800000000])],[(800000001,tL,.fz),(800000000,tI,.fz)]⟩
def ygc:Shape:=⟨[(1,false,[.ptr 0 0]),(2,false,[.ptr 64 0]),(3,false,[.ptr 4544 0]),(4,false,[.ci .i64 0])],[(0,[.br tL,.br tW,.bool,.br tI]),(64,[.nil,.nil,.bool,.nil]),(4544,[.at 800000001,.nil,.bool,.at 800000000])],[(800000001,tL,.fz),(800000000,tI,.fz)]⟩
def yf0:Shape:=⟨[(1,false,[.ptr 0 0]),(2,false,[.ptr 64 0]),(3,false,[.ptr 4544 0])],[(0,[.br tL,.br tW,.bool,.br tI]),(64,[.nil,.nil,.bool,.nil]),(4544,[.at 800000000,.nil,.bool,.at 800000001])],[(800000000,tL,.fz),(800000001,tI,.fz)]⟩
def ykr:Shape:=⟨[],[],[]⟩
abbrev ypD (v0:Int) (v1:dM) (v2:dM) (v3:dM):(ybJ).X:=((((),()),((),()),((),()),(v0,()),()),((v1.1,v1.2.1,v1.2.2.1,v1.2.2.2,()),((),(),v2.2.2.1,(),()),((),(),v3.2.2.1,(),()),()),(v3.1,v3.2.2.2,()))
abbrev yJ2 (v0:dM) (v1:dM) (v2:dM):(ygc).X:=((((),()),((),()),((),()),((),()),()),((v0.1,v0.2.1,v0.2.2.1,v0.2.2.2,()),((),(),v1.2.2.1,(),()),((),(),v2.2.2.1,(),()),()),(v2.1,v2.2.2.2,()))
abbrev yxG (v0:dM) (v1:dM) (v2:dM):(yf0).X:=((((),()),((),()),((),()),()),((v0.1,v0.2.1,v0.2.2.1,v0.2.2.2,()),((),(),v1.2.2.1,(),()),((),(),v2.2.2.1,(),()),()),(v2.1,v2.2.2.2,()))
def ypR (v0:Int) (v1:List (List Int)) (v2:List dW) (v3:Bool) (v4:List Int) (v5:Bool) (v6:Bool) (v7:List (List Int)) (v8:List Int):Option ((ybJ).X ⊕ ((yf0).X ⊕ (ykr).X)) :=
  bif (ltb v0 (v1.length:Int)) then
    bif (inb v0 v1.length) then
      bif (zj4 ([]:List Int).length (nth v1 v0 []).length 8) then
        bif (zj4 v7.length ([(([]:List Int)++(nth v1 v0 []))]:List (List Int)).length 24) then
          some (.inl ((((),()),((),()),((),()),((IntKind.i64.wrap (v0+1)),()),()),((v1,v2,v3,v4,()),((),(),v5,(),()),((),(),v6,(),()),()),((v7++([(([]:List Int)++(nth v1 v0 []))]:List (List Int))),v8,())))
        else none
      else none
    else none
  else
    some (.inr (.inl ((((),()),((),()),((),()),()),((v1,v2,v3,v4,()),((),(),v5,(),()),((),(),v6,(),()),()),(v7,v8,()))))
def ycd (x:(ybJ).X):=ypR x.1.2.2.2.1.1 x.2.1.1.1 x.2.1.1.2.1 x.2.1.1.2.2.1 x.2.1.1.2.2.2.1 x.2.1.2.1.2.2.1 x.2.1.2.2.1.2.2.1 x.2.2.1 x.2.2.2.1
def yxm (x:(ygc).X):(ybJ).X:=((((),()),((),()),((),()),(0,()),()),((x.2.1.1.1,x.2.1.1.2.1,x.2.1.1.2.2.1,x.2.1.1.2.2.2.1,()),((),(),x.2.1.2.1.2.2.1,(),()),((),(),x.2.1.2.2.1.2.2.1,(),()),()),(x.2.2.1,x.2.2.2.1,()))
def yyG:Code:=(zdI yc8 64 116).getD .skip
theorem yLi:zdI yc8 64 29=some (.block 0 (.loop yyG)):=by kernel_rfl
theorem yNW (x:(ybJ).X):zg7 ⟨ygG,60,yAR⟩ 0 yyG 116 ybJ yf0 ykr x=ycd x:=by kernel_rfl
def yxy (x:(ygc).X):Nat:=(fun (u0:List (List Int)) (u1:List dW) (u2:Bool) (u3:List Int) (u4:Bool) (u5:Bool) (u6:List (List Int)) (u7:List Int)=>18446744073709551616) x.2.1.1.1 x.2.1.1.2.1 x.2.1.1.2.2.1 x.2.1.1.2.2.2.1 x.2.1.2.1.2.2.1 x.2.1.2.2.1.2.2.1 x.2.2.1 x.2.2.2.1
def yrj (x:(ygc).X):Option ((yf0).X ⊕ (ykr).X):=zr ycd (yxy x) (yxm x)
def yxP:Seg:=⟨ygc,yf0,ykr,yrj⟩
def ysw:Nat→Option Seg:=fun q=>bif Nat.beq q 29 then some yxP else yAR q
theorem yL2:FrOk Tryz.prog ⟨ygG,60,ysw⟩ yc8:=(yL1).loop (sg:=yxP) ybJ yxm (by decide) yLi ycd yxy (by decide) (fun _=>rfl) (fun x r _ h=>h) yNW
def ybK:Shape:=⟨[(1,false,[.ptr 0 0]),(2,false,[.ptr 64 0]),(3,false,[.ptr 4544 0]),(5,false,[.int .i64])],[(0,[.br tL,.br tW,.bool,.br tI]),(64,[.nil,.nil,.bool,.nil]),(4544,[.at 800000000,.at 800000002,.bool,.at 800000001])],[(800000000,tL,.fz),(800000002,tW,(.pr .fz .fz)),(800000001,tI,.fz)]⟩
def ygd:Shape:=⟨[(1,false,[.ptr 0 0]),(2,false,[.ptr 64 0]),(3,false,[.ptr 4544 0]),(5,false,[.ci .i64 0])],[(0,[.br tL,.br tW,.bool,.br tI]),(64,[.nil,.nil,.bool,.nil]),(4544,[.at 800000000,.at 800000002,.bool,.at 800000001])],[(800000000,tL,.fz),(800000002,tW,(.pr .fz .fz)),(800000001,tI,.fz)]⟩
def yf1:Shape:=⟨[(2,false,[.ptr 64 0]),(3,false,[.ptr 4544 0])],[(64,[.nil,.nil,.bool,.nil]),(4544,[.at 800000000,.at 800000001,.bool,.at 800000002])],[(800000000,tL,.fz),(800000001,tW,(.pr .fz .fz)),(800000002,tI,.fz)]⟩
def yks:Shape:=⟨[],[],[]⟩
abbrev ypE (v0:Int) (v1:dM) (v2:dM) (v3:dM):(ybK).X:=((((),()),((),()),((),()),(v0,()),()),((v1.1,v1.2.1,v1.2.2.1,v1.2.2.2,()),((),(),v2.2.2.1,(),()),((),(),v3.2.2.1,(),()),()),(v3.1,v3.2.1,v3.2.2.2,()))
abbrev yJ3 (v0:dM) (v1:dM) (v2:dM):(ygd).X:=((((),()),((),()),((),()),((),()),()),((v0.1,v0.2.1,v0.2.2.1,v0.2.2.2,()),((),(),v1.2.2.1,(),()),((),(),v2.2.2.1,(),()),()),(v2.1,v2.2.1,v2.2.2.2,()))
abbrev yxH (v0:dM) (v1:dM):(yf1).X:=((((),()),((),()),()),(((),(),v0.2.2.1,(),()),((),(),v1.2.2.1,(),()),()),(v1.1,v1.2.1,v1.2.2.2,()))
def ypS (v0:Int) (v1:List (List Int)) (v2:List dW) (v3:Bool) (v4:List Int) (v5:Bool) (v6:Bool) (v7:List (List Int)) (v8:List dW) (v9:List Int):Option ((ybK).X ⊕ ((yf1).X ⊕ (yks).X)) :=
  bif (ltb v0 (v2.length:Int)) then
    bif (inb v0 v2.length) then
      bif (inb v0 v2.length) then
        bif (zj4 ([]:List Int).length ((nth v2 v0 (0,[])).2).length 8) then
          bif (zj4 v8.length ([((nth v2 v0 (0,[])).1,(([]:List Int)++((nth v2 v0 (0,[])).2)))]:List dW).length 32) then
            some (.inl ((((),()),((),()),((),()),((IntKind.i64.wrap (v0+1)),()),()),((v1,v2,v3,v4,()),((),(),v5,(),()),((),(),v6,(),()),()),(v7,(v8++([((nth v2 v0 (0,[])).1,(([]:List Int)++((nth v2 v0 (0,[])).2)))]:List dW)),v9,())))
          else none
        else none
      else none
    else none
  else
    some (.inr (.inl ((((),()),((),()),()),(((),(),v5,(),()),((),(),v6,(),()),()),(v7,v8,v9,()))))
def yce (x:(ybK).X):=ypS x.1.2.2.2.1.1 x.2.1.1.1 x.2.1.1.2.1 x.2.1.1.2.2.1 x.2.1.1.2.2.2.1 x.2.1.2.1.2.2.1 x.2.1.2.2.1.2.2.1 x.2.2.1 x.2.2.2.1 x.2.2.2.2.1
def yxn (x:(ygd).X):(ybK).X:=((((),()),((),()),((),()),(0,()),()),((x.2.1.1.1,x.2.1.1.2.1,x.2.1.1.2.2.1,x.2.1.1.2.2.2.1,()),((),(),x.2.1.2.1.2.2.1,(),()),((),(),x.2.1.2.2.1.2.2.1,(),()),()),(x.2.2.1,x.2.2.2.1,x.2.2.2.2.1,()))
def yyH:Code:=(zdI yc8 64 244).getD .skip
theorem yLj:zdI yc8 64 61=some (.block 2 (.loop yyH)):=by kernel_rfl
theorem yNX (x:(ybK).X):zg7 ⟨ygG,60,ysw⟩ 2 yyH 244 ybK yf1 yks x=yce x:=by kernel_rfl
def yxz (x:(ygd).X):Nat:=(fun (u0:List (List Int)) (u1:List dW) (u2:Bool) (u3:List Int) (u4:Bool) (u5:Bool) (u6:List (List Int)) (u7:List dW) (u8:List Int)=>18446744073709551616) x.2.1.1.1 x.2.1.1.2.1 x.2.1.1.2.2.1 x.2.1.1.2.2.2.1 x.2.1.2.1.2.2.1 x.2.1.2.2.1.2.2.1 x.2.2.1 x.2.2.2.1 x.2.2.2.2.1
def yrk (x:(ygd).X):Option ((yf1).X ⊕ (yks).X):=zr yce (yxz x) (yxn x)
def yxQ:Seg:=⟨ygd,yf1,yks,yrk⟩
def yAS:Nat→Option Seg:=fun q=>bif Nat.beq q 61 then some yxQ else ysw q
theorem yL3:FrOk Tryz.prog ⟨ygG,60,yAS⟩ yc8:=(yL2).loop (sg:=yxQ) ybK yxn (by decide) yLj yce yxz (by decide) (fun _=>rfl) (fun x r _ h=>h) yNX
abbrev ygR:List Par:= [.rd tM]
abbrev yqQ:List OT:= [⟨false,tM,(.pr (.ow .fz) (.pr (.ow (.pr .fz .fz)) (.pr .fz (.ow .fz))))⟩]
def yna (a0:dM):Option (ResD yqQ×MutD ygR) :=
  bif (zj4 ([]:List Int).length a0.2.2.2.length 8) then
    zjw (yrj ((((),()),((),()),((),()),((),()),()),((a0.1,a0.2.1,a0.2.2.1,a0.2.2.2,()),((),(),false,(),()),((),(),a0.2.2.1,(),()),()),([],(([]:List Int)++a0.2.2.2),()))) (fun y0 =>
      zjw (yrk ((((),()),((),()),((),()),((),()),()),((y0.2.1.1.1,y0.2.1.1.2.1,y0.2.1.1.2.2.1,y0.2.1.1.2.2.2.1,()),((),(),y0.2.1.2.1.2.2.1,(),()),((),(),y0.2.1.2.2.1.2.2.1,(),()),()),(y0.2.2.1,[],y0.2.2.2.1,()))) (fun y1 =>
        some (((y1.2.2.1,y1.2.2.2.1,y1.2.1.2.1.2.2.1,y1.2.2.2.2.1),()),())) (fun y1 =>
        none)) (fun y0 =>
      none)
  else none
theorem yVN (x:InD ygR):zjH ⟨ygG,60,yAS⟩ Tryz.f152.results.toList yc8 ygR yqQ x=yna x.1:=by kernel_rfl
theorem yRh:ConOk Tryz.prog 152 ⟨ygR,yqQ,fun x=>yna x.1⟩:=zkh (yL3) Tryz.func152 (by kernel_rfl) (by kernel_rfl) Tryz.ntmps152.symm (by decide) (fun x r h=>(yVN x).trans h)
def yae (a0:dM):dM:=a0
theorem yTC (a0:dM) (hk:zi9 ygR (a0,())):yna a0=(fun n=>some ((n,()),())) (yae a0):=by
  have hb1:a0.1.length * 24≤2 ^ 47:=hk.1.1.1
  have hb2:a0.2.1.length * 32≤2 ^ 47:=hk.1.2.1.1
  have hb3:a0.2.2.2.length * 8≤2 ^ 47:=hk.1.2.2.2.1
  have hs: ∀ i,i < a0.1.length→(a0.1.getD i []).length * 8≤2 ^ 47:=fun i hi=>by rw [zcq hi]; exact (hk.1.1.2 _ (List.getElem_mem hi)).1
  have hc: ∀ i,i < a0.2.1.length→(a0.2.1.getD i (0,[])).2.length * 8≤2 ^ 47:=fun i hi=>by rw [zcq hi]; exact (hk.1.2.1.2 _ (List.getElem_mem hi)).2.1
  have h1:yrj (yJ2 a0 noMem ([],[],a0.2.2.1,a0.2.2.2))=some (.inl (yxG a0 noMem (a0.1,[],a0.2.2.1,a0.2.2.2))):=by
    have:=zkk (step:=ycd) a0.1 [] (fun i s=>ypD i a0 noMem (s,[],a0.2.2.1,a0.2.2.2)) (fun s x=>s++ [x]) (fun i s=>s.length=i) (fun s=> .inl (yxG a0 noMem (s,[],a0.2.2.1,a0.2.2.2))) (fun i s hi hs2=>⟨by
      have:=hs i hi
      simp only [ycd,ypD,ypR,zjI (show (i:Int) < a0.1.length by omega),cond_true,wr (show -9223372036854775808≤(i:Int)+1 by omega) (by omega),Int.natCast_add,Int.natCast_one,Int.toNat_natCast,zkO hi,zjW,List.nil_append]
      rw [zkw.2 (show (([]:List Int).length+(a0.1.getD i []).length) * 8≤140737488355328 by rw [List.length_nil]; omega),zkw.2 (show (s.length+ [a0.1.getD i []].length) * 24≤140737488355328 by simp only [List.length_cons,List.length_nil]; omega)]; rfl,by simp [hs2]⟩) (fun s _=>by simp only [ycd,ypD,ypR,zkm (Int.le_refl _),cond_false]) [] rfl 18446744073709551616 (by omega)
    rw [yXr]at this
    exact this
  have h2:yrk (yJ3 a0 noMem (a0.1,[],a0.2.2.1,a0.2.2.2))=some (.inl (yxH noMem a0)):=by
    have:=zkk (step:=yce) a0.2.1 (0,[]) (fun i s=>ypE i a0 noMem (a0.1,s,a0.2.2.1,a0.2.2.2)) (fun s x=>s++ [x]) (fun i s=>s.length=i) (fun s=> .inl (yxH noMem (a0.1,s,a0.2.2.1,a0.2.2.2))) (fun i s hi hs2=>⟨by
      have:=hc i hi
      simp only [yce,ypE,ypS,zjI (show (i:Int) < a0.2.1.length by omega),cond_true,wr (show -9223372036854775808≤(i:Int)+1 by omega) (by omega),Int.natCast_add,Int.natCast_one,Int.toNat_natCast,zkO hi,zjW,List.nil_append,zkV]
      rw [zkw.2 (show (([]:List Int).length+(a0.2.1.getD i (0,[])).2.length) * 8≤140737488355328 by rw [List.length_nil]; omega),zkw.2 (show (s.length+ [a0.2.1.getD i (0,[])].length) * 32≤140737488355328 by simp only [List.length_cons,List.length_nil]; omega)]; rfl,by simp [hs2]⟩) (fun s _=>by simp only [yce,ypE,ypS,zkm (Int.le_refl _),cond_false]) [] rfl 18446744073709551616 (by omega)
    rw [yXr]at this
    exact this
  unfold yna yae
  rw [zkw.2 (show (([]:List Int).length+a0.2.2.2.length) * 8≤140737488355328 by rw [List.length_nil]; omega)]
  simp only [cond_true,List.nil_append,h1,zkJ,h2]
def yh3:Con:=⟨ygR,yqQ,fun x=>(fun n=>some ((n,()),())) (yae x.1)⟩
theorem yoZ:ConOk Tryz.prog 152 yh3:=(yRh).mono (fun x r hk h=>(yTC x.1 hk).trans h)
end
end
end Go.Tf
