/- Functions of the program, and what they come to. -/
import Derived.Test.YtcpidpnglekceaaGreatWordsBentF7
namespace Go.Tf
noncomputable section
open Go.Proofs
set_option synthInstance.maxHeartbeats 400000
set_option synthInstance.maxSize 10000
set_option linter.unusedVariables false
set_option linter.unusedSimpArgs false
set_option maxRecDepth 100000
section
def yxv:Code:=(Tryz.f155.body).getD .skip
def yx9:Env:=zki TT [(115,yq),(173,yj4)] []
theorem yCS:FrOk Tryz.prog ⟨yx9,16,fun _=>none⟩ yxv:=zkp ye yf ⟨yu,yq6,trivial⟩
def yD4:Nat→Option Seg:=fun _=>none
abbrev yd1:List Par:= [.rd tG,.rd tI]
abbrev ylC:List OT:= [⟨false,tI,.fz⟩]
def yir (a0:dG) (a1:Int):Option (ResD ylC×MutD yd1) :=
  let r1:=yr a0
  let r2:=yb a1 0 (IntKind.i64.wrap (r1 - 1))
  bif (!r2) then
    some (((-1),()),())
  else
    bif ((IntKind.i64.wrap (a0.1 - 1)) !=0) then
      some (((a1.tmod (IntKind.i64.wrap (a0.1 - 1))),()),())
    else none
theorem yKE (x:InD yd1):zjH ⟨yx9,16,yD4⟩ Tryz.f155.results.toList yxv yd1 ylC x=yir x.1 x.2.1:=by kernel_rfl
theorem yGf:ConOk Tryz.prog 155 ⟨yd1,ylC,fun x=>yir x.1 x.2.1⟩:=zkh (yCS) Tryz.func155 (by kernel_rfl) (by kernel_rfl) Tryz.ntmps155.symm (by decide) (fun x r h=>(yKE x).trans h)
def yhQ (a0:dG) (a1:Int):Int:=yoO a0 a1
theorem yIT (a0:dG) (a1:Int) (hk:zi9 yd1 (a0,a1,())):yir a0 a1=(fun n=>some ((n,()),())) (yhQ a0 a1):=by
  unfold yir yhQ yoO
  simp only [yPW]
  cases hb:yih a0 a1
  · rfl
  · obtain ⟨h1,h2,h3⟩:=ywo hb
    have h4:=yn.1 h1
    rw [wr (show -9223372036854775808≤a0.1 - 1 by omega) (by omega),show (a0.1 - 1 !=0)=true from bne_iff_ne.2 (by omega)]; rfl
def yui:Con:=⟨yd1,ylC,fun x=>(fun n=>some ((n,()),())) (yhQ x.1 x.2.1)⟩
theorem yJJ:ConOk Tryz.prog 155 yui:=(yGf).mono (fun x r hk h=>(yIT x.1 x.2.1 hk).trans h)
end
section
def ykI:Code:=(Tryz.f233.body).getD .skip
def ypa:Env:=zki TT [] [(4096,(.pr .fz .fz)),(28800,(.pr .fz .fz)),(41472,(.pr .fz .fz)),(49280,(.pr .fz .fz))]
theorem yIz:FrOk Tryz.prog ⟨ypa,67,fun _=>none⟩ ykI:=zkp ye yf trivial
def yx5:Nat→Option Seg:=fun _=>none
def yb2:Shape:=⟨[(0,false,[.ptr 1000000000 0]),(3,false,[.ptr 0 0]),(4,false,[.at 800000000]),(5,false,[.bool]),(6,false,[.int .i64])],[(0,[.int .i64,.fz tI]),(1000000000,[.int .i64,.int .i64,.int .i64,.at 800000001,.int .i64,.int .i64,.int .i64,.int .i64,.int .i64,.at 800000002,.int .i64,.bool,.bool])],[(800000000,tW,(.pr .fz .fz)),(800000001,tM,(.pr (.ow .fz) (.pr (.ow (.pr .fz .fz)) (.pr .fz (.ow .fz))))),(800000002,tW,(.pr .fz .fz))]⟩
def yf7:Shape:=⟨[(0,false,[.ptr 1000000000 0]),(3,false,[.ptr 0 0]),(4,false,[.at 800000000]),(5,false,[.cb false]),(6,false,[.ci .i64 0])],[(0,[.int .i64,.fz tI]),(1000000000,[.int .i64,.int .i64,.int .i64,.at 800000001,.int .i64,.int .i64,.int .i64,.int .i64,.int .i64,.at 800000002,.int .i64,.bool,.bool])],[(800000000,tW,(.pr .fz .fz)),(800000001,tM,(.pr (.ow .fz) (.pr (.ow (.pr .fz .fz)) (.pr .fz (.ow .fz))))),(800000002,tW,(.pr .fz .fz))]⟩
def yfQ:Shape:=⟨[(0,false,[.ptr 1000000000 0]),(3,false,[.ptr 0 0]),(4,false,[.at 800000000]),(5,false,[.bool])],[(0,[.int .i64,.fz tI]),(1000000000,[.int .i64,.int .i64,.int .i64,.at 800000001,.int .i64,.int .i64,.int .i64,.int .i64,.int .i64,.at 800000002,.int .i64,.bool,.bool])],[(800000000,tW,(.pr .fz .fz)),(800000001,tM,(.pr (.ow .fz) (.pr (.ow (.pr .fz .fz)) (.pr .fz (.ow .fz))))),(800000002,tW,(.pr .fz .fz))]⟩
def yj2:Shape:=⟨[],[],[]⟩
abbrev yop (v0:Bool) (v1:Int) (v2:dW) (v3:dA) (v4:List dW):(yb2).X:=((((),()),((),()),((),()),(v0,()),(v1,()),()),((v2.1,v2.2,()),(v3.1,v3.2.1.1,v3.2.1.2,(),v3.2.2.2.1,v3.2.2.2.2.1,v3.2.2.2.2.2.1,v3.2.2.2.2.2.2.1,v3.2.2.2.2.2.2.2.1,(),v3.2.2.2.2.2.2.2.2.2.1,v3.2.2.2.2.2.2.2.2.2.2.1,v3.2.2.2.2.2.2.2.2.2.2.2,()),()),(v4,v3.2.2.1,v3.2.2.2.2.2.2.2.2.1,()))
abbrev yFM (v0:dW) (v1:dA) (v2:List dW):(yf7).X:=((((),()),((),()),((),()),((),()),((),()),()),((v0.1,v0.2,()),(v1.1,v1.2.1.1,v1.2.1.2,(),v1.2.2.2.1,v1.2.2.2.2.1,v1.2.2.2.2.2.1,v1.2.2.2.2.2.2.1,v1.2.2.2.2.2.2.2.1,(),v1.2.2.2.2.2.2.2.2.2.1,v1.2.2.2.2.2.2.2.2.2.2.1,v1.2.2.2.2.2.2.2.2.2.2.2,()),()),(v2,v1.2.2.1,v1.2.2.2.2.2.2.2.2.1,()))
abbrev yFw (v0:Bool) (v1:dW) (v2:dA) (v3:List dW):(yfQ).X:=((((),()),((),()),((),()),(v0,()),()),((v1.1,v1.2,()),(v2.1,v2.2.1.1,v2.2.1.2,(),v2.2.2.2.1,v2.2.2.2.2.1,v2.2.2.2.2.2.1,v2.2.2.2.2.2.2.1,v2.2.2.2.2.2.2.2.1,(),v2.2.2.2.2.2.2.2.2.2.1,v2.2.2.2.2.2.2.2.2.2.2.1,v2.2.2.2.2.2.2.2.2.2.2.2,()),()),(v3,v2.2.2.1,v2.2.2.2.2.2.2.2.2.1,()))
def yoJ (v0:Bool) (v1:Int) (v2:Int) (v3:List Int) (v4:Int) (v5:Int) (v6:Int) (v7:Int) (v8:Int) (v9:Int) (v10:Int) (v11:Int) (v12:Int) (v13:Bool) (v14:Bool) (v15:List dW) (v16:List dM) (v17:List dW):Option ((yb2).X ⊕ ((yfQ).X ⊕ (yj2).X)) :=
  bif (ltb v1 (v17.length:Int)) then
    bif (!v0) then
      bif (inb v1 v17.length) then
        bif (leb v2 ((nth v17 v1 (0,[])).1)) then
          bif (zj4 v15.length ([(v2,v3)]:List dW).length 32) then
            bif (inb v1 v17.length) then
              bif ((nth v17 v1 (0,[])).1 !=v2) then
                bif (inb v1 v17.length) then
                  bif (zj4 (v15++([(v2,v3)]:List dW)).length ([(nth v17 v1 (0,[]))]:List dW).length 32) then
                    some (.inl ((((),()),((),()),((),()),(true,()),((IntKind.i64.wrap (v1+1)),()),()),((v2,v3,()),(v4,v5,v6,(),v7,v8,v9,v10,v11,(),v12,v13,v14,()),()),(((v15++([(v2,v3)]:List dW))++([(nth v17 v1 (0,[]))]:List dW)),v16,v17,())))
                  else none
                else none
              else
                some (.inl ((((),()),((),()),((),()),(true,()),((IntKind.i64.wrap (v1+1)),()),()),((v2,v3,()),(v4,v5,v6,(),v7,v8,v9,v10,v11,(),v12,v13,v14,()),()),((v15++([(v2,v3)]:List dW)),v16,v17,())))
            else none
          else none
        else
          bif (inb v1 v17.length) then
            bif ((nth v17 v1 (0,[])).1 !=v2) then
              bif (inb v1 v17.length) then
                bif (zj4 v15.length ([(nth v17 v1 (0,[]))]:List dW).length 32) then
                  some (.inl ((((),()),((),()),((),()),(v0,()),((IntKind.i64.wrap (v1+1)),()),()),((v2,v3,()),(v4,v5,v6,(),v7,v8,v9,v10,v11,(),v12,v13,v14,()),()),((v15++([(nth v17 v1 (0,[]))]:List dW)),v16,v17,())))
                else none
              else none
            else
              some (.inl ((((),()),((),()),((),()),(v0,()),((IntKind.i64.wrap (v1+1)),()),()),((v2,v3,()),(v4,v5,v6,(),v7,v8,v9,v10,v11,(),v12,v13,v14,()),()),(v15,v16,v17,())))
          else none
      else none
    else
      bif (inb v1 v17.length) then
        bif ((nth v17 v1 (0,[])).1 !=v2) then
          bif (inb v1 v17.length) then
            bif (zj4 v15.length ([(nth v17 v1 (0,[]))]:List dW).length 32) then
              some (.inl ((((),()),((),()),((),()),(v0,()),((IntKind.i64.wrap (v1+1)),()),()),((v2,v3,()),(v4,v5,v6,(),v7,v8,v9,v10,v11,(),v12,v13,v14,()),()),((v15++([(nth v17 v1 (0,[]))]:List dW)),v16,v17,())))
            else none
          else none
        else
          some (.inl ((((),()),((),()),((),()),(v0,()),((IntKind.i64.wrap (v1+1)),()),()),((v2,v3,()),(v4,v5,v6,(),v7,v8,v9,v10,v11,(),v12,v13,v14,()),()),(v15,v16,v17,())))
      else none
  else
    some (.inr (.inl ((((),()),((),()),((),()),(v0,()),()),((v2,v3,()),(v4,v5,v6,(),v7,v8,v9,v10,v11,(),v12,v13,v14,()),()),(v15,v16,v17,()))))
def ycs (x:(yb2).X):=yoJ x.1.2.2.2.1.1 x.1.2.2.2.2.1.1 x.2.1.1.1 x.2.1.1.2.1 x.2.1.2.1.1 x.2.1.2.1.2.1 x.2.1.2.1.2.2.1 x.2.1.2.1.2.2.2.2.1 x.2.1.2.1.2.2.2.2.2.1 x.2.1.2.1.2.2.2.2.2.2.1 x.2.1.2.1.2.2.2.2.2.2.2.1 x.2.1.2.1.2.2.2.2.2.2.2.2.1 x.2.1.2.1.2.2.2.2.2.2.2.2.2.2.1 x.2.1.2.1.2.2.2.2.2.2.2.2.2.2.2.1 x.2.1.2.1.2.2.2.2.2.2.2.2.2.2.2.2.1 x.2.2.1 x.2.2.2.1 x.2.2.2.2.1
def yuG (x:(yf7).X):(yb2).X:=((((),()),((),()),((),()),(false,()),(0,()),()),((x.2.1.1.1,x.2.1.1.2.1,()),(x.2.1.2.1.1,x.2.1.2.1.2.1,x.2.1.2.1.2.2.1,(),x.2.1.2.1.2.2.2.2.1,x.2.1.2.1.2.2.2.2.2.1,x.2.1.2.1.2.2.2.2.2.2.1,x.2.1.2.1.2.2.2.2.2.2.2.1,x.2.1.2.1.2.2.2.2.2.2.2.2.1,(),x.2.1.2.1.2.2.2.2.2.2.2.2.2.2.1,x.2.1.2.1.2.2.2.2.2.2.2.2.2.2.2.1,x.2.1.2.1.2.2.2.2.2.2.2.2.2.2.2.2.1,()),()),(x.2.2.1,x.2.2.2.1,x.2.2.2.2.1,()))
def ywG:Code:=(zdI ykI 64 244).getD .skip
theorem yHw:zdI ykI 64 61=some (.block 0 (.loop ywG)):=by kernel_rfl
theorem yKc (x:(yb2).X):zg7 ⟨ypa,67,yx5⟩ 0 ywG 244 yb2 yfQ yj2 x=ycs x:=by kernel_rfl
def yuY (x:(yf7).X):Nat:=(fun (u0:Int) (u1:List Int) (u2:Int) (u3:Int) (u4:Int) (u5:Int) (u6:Int) (u7:Int) (u8:Int) (u9:Int) (u10:Int) (u11:Bool) (u12:Bool) (u13:List dW) (u14:List dM) (u15:List dW)=>18446744073709551616) x.2.1.1.1 x.2.1.1.2.1 x.2.1.2.1.1 x.2.1.2.1.2.1 x.2.1.2.1.2.2.1 x.2.1.2.1.2.2.2.2.1 x.2.1.2.1.2.2.2.2.2.1 x.2.1.2.1.2.2.2.2.2.2.1 x.2.1.2.1.2.2.2.2.2.2.2.1 x.2.1.2.1.2.2.2.2.2.2.2.2.1 x.2.1.2.1.2.2.2.2.2.2.2.2.2.2.1 x.2.1.2.1.2.2.2.2.2.2.2.2.2.2.2.1 x.2.1.2.1.2.2.2.2.2.2.2.2.2.2.2.2.1 x.2.2.1 x.2.2.2.1 x.2.2.2.2.1
def ypr (x:(yf7).X):Option ((yfQ).X ⊕ (yj2).X):=zr ycs (yuY x) (yuG x)
def yvz:Seg:=⟨yf7,yfQ,yj2,ypr⟩
def yx6:Nat→Option Seg:=fun q=>bif Nat.beq q 61 then some yvz else yx5 q
theorem yIA:FrOk Tryz.prog ⟨ypa,67,yx6⟩ ykI:=(yIz).loop (sg:=yvz) yb2 yuG (by decide) yHw ycs yuY (by decide) (fun _=>rfl) (fun x r _ h=>h) yKc
abbrev yen:List Par:= [.pt tA (.pr .fz (.pr (.pr .fz .fz) (.pr (.ow (.pr (.ow .fz) (.pr (.ow (.pr .fz .fz)) (.pr .fz (.ow .fz))))) (.pr .fz (.pr .fz (.pr .fz (.pr .fz (.pr .fz (.pr (.ow (.pr .fz .fz)) (.pr .fz (.pr .fz .fz))))))))))),.kp tW .fz]
abbrev yk1:List OT:= []
def yl7 (a0:dA) (a1:dW):Option (ResD yk1×MutD yen) :=
  zjw (ypr ((((),()),((),()),((),()),((),()),((),()),()),((a1.1,a1.2,()),(a0.1,a0.2.1.1,a0.2.1.2,(),a0.2.2.2.1,a0.2.2.2.2.1,a0.2.2.2.2.2.1,a0.2.2.2.2.2.2.1,a0.2.2.2.2.2.2.2.1,(),a0.2.2.2.2.2.2.2.2.2.1,a0.2.2.2.2.2.2.2.2.2.2.1,a0.2.2.2.2.2.2.2.2.2.2.2,()),()),(([]:List dW),a0.2.2.1,a0.2.2.2.2.2.2.2.2.1,()))) (fun y0 =>
    bif (!y0.1.2.2.2.1.1) then
      bif (zj4 y0.2.2.1.length ([(y0.2.1.1.1,y0.2.1.1.2.1)]:List dW).length 32) then
        some ((),((y0.2.1.2.1.1,(y0.2.1.2.1.2.1,y0.2.1.2.1.2.2.1),y0.2.2.2.1,y0.2.1.2.1.2.2.2.2.1,y0.2.1.2.1.2.2.2.2.2.1,y0.2.1.2.1.2.2.2.2.2.2.1,y0.2.1.2.1.2.2.2.2.2.2.2.1,y0.2.1.2.1.2.2.2.2.2.2.2.2.1,(y0.2.2.1++([(y0.2.1.1.1,y0.2.1.1.2.1)]:List dW)),y0.2.1.2.1.2.2.2.2.2.2.2.2.2.2.1,y0.2.1.2.1.2.2.2.2.2.2.2.2.2.2.2.1,y0.2.1.2.1.2.2.2.2.2.2.2.2.2.2.2.2.1),()))
      else none
    else
      some ((),((y0.2.1.2.1.1,(y0.2.1.2.1.2.1,y0.2.1.2.1.2.2.1),y0.2.2.2.1,y0.2.1.2.1.2.2.2.2.1,y0.2.1.2.1.2.2.2.2.2.1,y0.2.1.2.1.2.2.2.2.2.2.1,y0.2.1.2.1.2.2.2.2.2.2.2.1,y0.2.1.2.1.2.2.2.2.2.2.2.2.1,y0.2.2.1,y0.2.1.2.1.2.2.2.2.2.2.2.2.2.2.1,y0.2.1.2.1.2.2.2.2.2.2.2.2.2.2.2.1,y0.2.1.2.1.2.2.2.2.2.2.2.2.2.2.2.2.1),()))) (fun y0 =>
    none)
theorem yOO (x:InD yen):zjH ⟨ypa,67,yx6⟩ Tryz.f233.results.toList ykI yen yk1 x=yl7 x.1 x.2.1:=by kernel_rfl
theorem yLV:ConOk Tryz.prog 233 ⟨yen,yk1,fun x=>yl7 x.1 x.2.1⟩:=zkh (yIA) Tryz.func233 (by kernel_rfl) (by kernel_rfl) Tryz.ntmps233.symm (by decide) (fun x r h=>(yOO x).trans h)
def yqb (a0:dA) (a1:dW):dA:=yzq a0 (yCf a0.2.2.2.2.2.2.2.2.1 a1)
def yvh (a0:dA) (a1:dW):Bool:=decide (a0.2.2.2.2.2.2.2.2.1.length≤1000)
theorem yNP (a0:dA) (a1:dW) (hk:zi9 yen (a0,a1,())) (hq:yvh a0 a1=true):yl7 a0 a1=(fun n=>some ((),(n,()))) (yqb a0 a1):=by
  have hq:=of_decide_eq_true hq
  have h1:=zkk (step:=ycs) a0.2.2.2.2.2.2.2.2.1 (0,[]) (fun i s=>yop s.1 i a1 a0 s.2) (ya3 a1) (fun i s=>s.2.length≤i * 2) (fun s=> .inl (yFw s.1 a1 a0 s.2)) (fun i s hi hs=>by
    constructor
    · simp only [ycs,yop,yoJ,zjI (show (i:Int) < a0.2.2.2.2.2.2.2.2.1.length by omega),cond_true,wr (show -9223372036854775808≤(i:Int)+1 by omega) (by omega),Int.natCast_add,Int.natCast_one,Int.toNat_natCast,zkO hi,zkV,zjW,ya3,zkw.2 (show (s.2.length+ [a1].length) * 32≤140737488355328 by simp only [List.length_cons,List.length_nil]; omega),
        show ∀ x:dW,zj4 s.2.length [x].length 32=true from fun x=>zkw.2 (by simp only [List.length_cons,List.length_nil]; omega),show ∀ x:dW,zj4 (s.2++ [a1]).length [x].length 32=true from fun x=>zkw.2 (by simp only [List.length_append,List.length_cons,List.length_nil]; omega)]
      cases s.1<;>cases leb a1.1 (a0.2.2.2.2.2.2.2.2.1.getD i (0,[])).1<;>cases ((a0.2.2.2.2.2.2.2.2.1.getD i (0,[])).1 !=a1.1)<;>simp
    · unfold ya3
      have: ∀ (b c:Bool) (x:dW),((bif b then s.2++ [a1] else s.2)++(bif c then [x] else [])).length≤(i+1) * 2:=fun b c x=>by
        cases b<;>cases c<;>simp<;>omega
      exact this _ _ _) (fun s hs=>by simp only [ycs,yop,yoJ,zkm (Int.le_refl _),cond_false]) (false,[]) (Nat.zero_le _) 18446744073709551616 (by omega)
  have hl:((a0.2.2.2.2.2.2.2.2.1.foldl (ya3 a1) (false,[])).2).length≤2000:=by
    have: ∀ (l:List dW) (s:Bool×List dW),((l.foldl (ya3 a1) s).2).length≤s.2.length+l.length * 2:=by
      intro l
      induction l with
      | nil=>intro s; simp
      | cons x t ih =>
        intro s
        rw [List.foldl_cons]
        have:=ih (ya3 a1 s x)
        have h2:(ya3 a1 s x).2.length≤s.2.length+2:=by
          unfold ya3
          cases (!s.1&&leb a1.1 x.1)<;>cases (x.1 !=a1.1)<;>simp
        simp only [List.length_cons]; omega
    have:=this a0.2.2.2.2.2.2.2.2.1 (false,[])
    simp only [List.length_nil]at this
    omega
  unfold yl7 yqb yCf
  refine (congrArg (fun z=>zjw z _ _) (show ypr (yFM a1 a0 [])=_ from h1)).trans ?_
  generalize a0.2.2.2.2.2.2.2.2.1.foldl (ya3 a1) (false,[])=R at hl
  simp only [zkJ,zkV]
  cases hr:R.1
  · rw [zkw.2 (show (R.2.length+ [a1].length) * 32≤140737488355328 by simp only [List.length_cons,List.length_nil]; omega)]; rfl
  · rfl
def yqd (a0:dA) (a1:dW):Option (ResD yk1×MutD yen):=bif yvh a0 a1 then (fun n=>some ((),(n,()))) (yqb a0 a1) else none
theorem yOb (a0:dA) (a1:dW) (h:yvh a0 a1=true):yqd a0 a1=(fun n=>some ((),(n,()))) (yqb a0 a1):=by unfold yqd; rw [h]; rfl
def yyB:Con:=⟨yen,yk1,fun x=>yqd x.1 x.2.1⟩
theorem yN8:ConOk Tryz.prog 233 yyB:=(yLV).mono (fun x r hk h=>zkW h (fun hq=>yNP x.1 x.2.1 hk hq))
end
section
def yA6:Code:=(Tryz.f159.body).getD .skip
def yBn:Env:=zki TT [(153,ysN),(154,ysL),(155,yui),(233,yyB)] []
theorem yIB:FrOk Tryz.prog ⟨yBn,40,fun _=>none⟩ yA6:=zkp ye yf ⟨yGw,yGu,yJJ,yN8,trivial⟩
def yKw:Nat→Option Seg:=fun _=>none
abbrev yeo:List Par:= [.pt tA (.pr .fz (.pr (.pr .fz .fz) (.pr (.ow (.pr (.ow .fz) (.pr (.ow (.pr .fz .fz)) (.pr .fz (.ow .fz))))) (.pr .fz (.pr .fz (.pr .fz (.pr .fz (.pr .fz (.pr (.ow (.pr .fz .fz)) (.pr .fz (.pr .fz .fz))))))))))),.rd tI,.rd tI]
abbrev yk2:List OT:= [⟨false,tI,.fz⟩]
def yl8 (a0:dA) (a1:Int) (a2:Int):Option (ResD yk2×MutD yeo) :=
  let r1:=ygu a0.2.1 a1
  bnd (ykb a0 r1) fun r2 =>
  bif (!r2.1.2.1) then
    some ((5,()),(a0,()))
  else
    let r3:=yhQ a0.2.1 a1
    bif (inb r3 r2.1.1.length) then
      bnd (yqd a0 (r1,(r2.1.1.set (r3).toNat a2))) fun r4 =>
      some ((0,()),(r4.2.1,()))
    else none
theorem yOP (x:InD yeo):zjH ⟨yBn,40,yKw⟩ Tryz.f159.results.toList yA6 yeo yk2 x=yl8 x.1 x.2.1 x.2.2.1:=by kernel_rfl
theorem yLW:ConOk Tryz.prog 159 ⟨yeo,yk2,fun x=>yl8 x.1 x.2.1 x.2.2.1⟩:=zkh (yIB) Tryz.func159 (by kernel_rfl) (by kernel_rfl) Tryz.ntmps159.symm (by decide) (fun x r h=>(yOP x).trans h)
def yKe (a:dA) (b n:Int):Int×dA:=bif (ybz a (yb9 a.2.1 b)).2 then (0,yzq a (yCf a.2.2.2.2.2.2.2.2.1 (yb9 a.2.1 b,(ybz a (yb9 a.2.1 b)).1.set (yoO a.2.1 b).toNat n))) else (5,a)
def yqc (a0:dA) (a1 a2:Int):Int×dA:=yKe a0 a1 a2
def ylg (a0:dA) (a1 a2:Int):Bool:=yv a0&&(yih a0.2.1 a1&&decide (a0.2.2.2.2.2.2.2.2.1.length≤1000))
theorem yNQ (a0:dA) (a1 a2:Int) (hk:zi9 yeo (a0,a1,a2,())) (hq:ylg a0 a1 a2=true):yl8 a0 a1 a2=(fun n=>some ((n.1,()),(n.2,()))) (yqc a0 a1 a2):=by
  simp only [ylg,Bool.and_eq_true]at hq
  have hs:=yD0 hq.2.1
  obtain ⟨hg,_,hi⟩:=ywo hq.2.1
  unfold yl8 yqc yKe
  simp only [ygu,yhQ]
  rw [yGy a0 (yb9 a0.2.1 a1) hs]
  simp only [zky,ygv]
  cases hn:(ybz a0 (yb9 a0.2.1 a1)).2
  · rfl
  · have hl:=yAt hq.1 hs hn
    have hx:yoO a0.2.1 a1=a1.tmod (a0.2.1.1 - 1):=by unfold yoO; rw [hq.2.1]; rfl
    rw [zjP.2 (show 0≤yoO a0.2.1 a1∧yoO a0.2.1 a1 < (ybz a0 (yb9 a0.2.1 a1)).1.length by omega),yOb _ _ hq.2.2]
    rfl
def ydc (a0:dA) (a1:Int) (a2:Int):Option (ResD yk2×MutD yeo):=bif ylg a0 a1 a2 then (fun n=>some ((n.1,()),(n.2,()))) (yqc a0 a1 a2) else none
theorem yOc (a0:dA) (a1:Int) (a2:Int) (h:ylg a0 a1 a2=true):ydc a0 a1 a2=(fun n=>some ((n.1,()),(n.2,()))) (yqc a0 a1 a2):=by unfold ydc; rw [h]; rfl
def yyC:Con:=⟨yeo,yk2,fun x=>ydc x.1 x.2.1 x.2.2.1⟩
theorem yN9:ConOk Tryz.prog 159 yyC:=(yLW).mono (fun x r hk h=>zkW h (fun hq=>yNQ x.1 x.2.1 x.2.2.1 hk hq))
end
section
def yAW:Code:=(Tryz.f222.body).getD .skip
def yBd:Env:=zki TT [(115,yq),(245,yeS)] []
theorem yH9:FrOk Tryz.prog ⟨yBd,22,fun _=>none⟩ yAW:=zkp ye yf ⟨yu,ykc,trivial⟩
def yKm:Nat→Option Seg:=fun _=>none
abbrev ykP:List Par:= [.rd tN]
abbrev ypD:List OT:= [⟨false,tB,.fz⟩]
def yrm (a0:dN):Option (ResD ypD×MutD ykP) :=
  let r1:=yb a0.1 0 60000
  bif r1 then
    let r2:=yb a0.2.1 0 7
    bif r2 then
      let r3:=yb (a0.2.2.length:Int) 2 4
      bif r3 then
        let r4:=yJ a0.2.2
        some ((r4,()),())
      else
        some ((false,()),())
    else
      some ((false,()),())
  else
    some ((false,()),())
theorem yOw (x:InD ykP):zjH ⟨yBd,22,yKm⟩ Tryz.f222.results.toList yAW ykP ypD x=yrm x.1:=by kernel_rfl
theorem yLD:ConOk Tryz.prog 222 ⟨ykP,ypD,fun x=>yrm x.1⟩:=zkh (yH9) Tryz.func222 (by kernel_rfl) (by kernel_rfl) Tryz.ntmps222.symm (by decide) (fun x r h=>(yOw x).trans h)
def yda (a0:dN):Bool :=
  let r1:=yb a0.1 0 60000
  bif r1 then
    let r2:=yb a0.2.1 0 7
    bif r2 then
      let r3:=yb (a0.2.2.length:Int) 2 4
      bif r3 then
        let r4:=yJ a0.2.2
        r4
      else
        false
    else
      false
  else
    false
def yyp:Con:=⟨ykP,ypD,fun x=>(fun n=>some ((n,()),())) (yda x.1)⟩
theorem yNF (a0:dN):yrm a0=(fun n=>some ((n,()),())) (yda a0):=zkS (p:=fun (n:Bool)=>((n,()),())) (zkx (p:=fun (n:Bool)=>((n,()),())) (zkx (p:=fun (n:Bool)=>((n,()),())) (zkx (p:=fun (n:Bool)=>((n,()),())) rfl rfl) rfl) rfl)
theorem yNW:ConOk Tryz.prog 222 yyp:=(yLD).mono (fun x r _ h=>(yNF x.1).trans h)
abbrev yRr:dN:=(0,0,[])
def yJV (r:dN):List Int:=bif yda r then 21322::r.1::r.2.1::(r.2.2.length:Int)::r.2.2 else []
def yQK (l:List Int):dN:=(nth l 1 0,nth l 2 0,l.drop 4)
def yR1 (l:List Int):dN×Bool:=bif leb 4 (l.length:Int)&&(nth l 0 0==21322&&(nth l 3 0==(l.length:Int) - 4&&yda (yQK l))) then (yQK l,true) else (yRr,false)
theorem yQd {r:dN}:yda r=true↔(0≤r.1∧r.1≤60000)∧(0≤r.2.1∧r.2.1≤7)∧(2≤(r.2.2.length:Int)∧(r.2.2.length:Int)≤4)∧r.2.2.all isW=true:=by
  unfold yda
  simp only [ysr,← yu0]
  cases yb r.1 0 60000<;>cases yb r.2.1 0 7<;>cases yb (r.2.2.length:Int) 2 4<;>simp
def yr8 (r:dN) (a:dA) (i:Nat):dA:=ydT a i (yjn r.1) (yJV r)
def ygD (a:dA) (r:dN):dA:=yab ((List.range a.2.2.1.length).foldl (yr8 r) a)
theorem yqu (r:dN) (a:dA) (i:Nat):(yr8 r a i).2.2.1.length=a.2.2.1.length:=yoQ _ _ _ _
theorem yRo (r:dN) {a:dA} (i:Nat) (h:yo a=true):yr8 r a i=a:=yO2 h _ _ _
theorem yQV (a:dA) (r:dN):(ygD a r).2.2.1.length=a.2.2.1.length:=(yvB _).trans (yk3 (yqu r) _ _)
theorem yro (a:dA) (r:dN):yG (ygD a r)=yG a:=(yoR _).trans (yrT (one:=yr8 r) (fun _ _=>yrd _ _ _ _) _ _)
theorem yB6 {one:dA→Nat→dA} {d:List dW} (hl: ∀ a i,(one a i).2.2.1.length=a.2.2.1.length) (ho: ∀ a i,yaK d a→i < a.2.2.1.length→yaK d (one a i)): ∀ (n:Nat) (a:dA),n≤a.2.2.1.length→yaK d a→yaK d ((List.range n).foldl one a)
  | 0,_,_,h=>h
  | n+1,a,hn,h=>by
    rw [List.range_succ,List.foldl_append]
    exact ho _ _ (yB6 hl ho n a (by omega) h) (by rw [yk3 hl]; exact hn)
theorem yRS {d:List dW} {a:dA} (r:dN) (h:yaK d a):yaK d (ygD a r):=yQb (yB6 (yqu r) (fun _ _ h hi=>yFX h (zkO hi)) _ a (Nat.le_refl _) h)
def yCm (p N x:Int) (data:List Int) (i:Int):Int:=bif i==p then x else nth data ((i - p - 1+N).tmod N) 0
def ydo (p N s:Int) (data:List Int) (a:dA) (i:Nat):dA:=bif yb4 a i s then ydT a i (ycH s) [yCm p N (yiD data) data i] else a
def ycc (a:dA) (s:Int) (data:List Int):dA:=(List.range a.2.2.1.length).foldl (ydo (yp a.2.1 s) a.2.1.1 s data) a
theorem ymR (p N s:Int) (data:List Int) (a:dA) (i:Nat):(ydo p N s data a i).2.2.1.length=a.2.2.1.length:=by
  unfold ydo; cases yb4 a i s
  · rfl
  · exact yoQ _ _ _ _
theorem yQ5 (p N s:Int) (data:List Int) {a:dA} (i:Nat) (h:yo a=true):ydo p N s data a i=a:=by
  unfold ydo; cases yb4 a i s
  · rfl
  · exact yO2 h _ _ _
theorem yBt (p N s:Int) (data:List Int) (a:dA) (i:Nat):yG (ydo p N s data a i)=yG a:=by
  unfold ydo; cases yb4 a i s
  · rfl
  · exact yrd _ _ _ _
theorem yRL (a:dA) (s:Int) (data:List Int):(ycc a s data).2.2.1.length=a.2.2.1.length:=yk3 (ymR _ _ _ _) _ _
theorem yBu (a:dA) (s:Int) (data:List Int):yG (ycc a s data)=yG a:=yrT (yBt _ _ _ _) _ _
theorem yRH {d:List dW} {a:dA} (s:Int) (data:List Int) (h:yaK d a):yaK d (ycc a s data):=yB6 (ymR _ _ _ _) (fun a i h hi=>by
  unfold ydo; cases yb4 a i s
  · exact h
  · exact yFX h (zkO hi)) _ a (Nat.le_refl _) h
theorem yRM {N i p:Int} (h:3≤N∧N≤5) (hi:0≤i∧i < N) (hp:0≤p∧p≤N - 1) (hne:i≠p):0≤(i - p - 1+N).tmod N∧(i - p - 1+N).tmod N < N - 1:=by
  rw [Int.tmod_eq_emod_of_nonneg (by omega)]
  have:N=3∨N=4∨N=5:=by omega
  rcases this with rfl | rfl | rfl<;>omega
theorem yRE {N p x:Int} {data:List Int} (h:3≤N∧N≤5) (hp:0≤p∧p≤N - 1) (hd:(data.length:Int)=N - 1) :
    (List.range data.length).foldl (fun l (i:Nat)=>l.set ((p+1+i).tmod N).toNat (nth data i 0)) ((List.replicate N.toNat 0).set p.toNat x)=(List.range N.toNat).map (fun (i:Nat)=>yCm p N x data i):=by
  have:N=3∨N=4∨N=5:=by omega
  rcases this with rfl | rfl | rfl
  · match data,hd with
    | [a,b],_ =>
      have:p=0∨p=1∨p=2:=by omega
      rcases this with rfl | rfl | rfl<;>simp [yCm,nth,List.range_succ,List.replicate_succ]
    | [],hd=>simp at hd
    | [_],hd=>simp at hd
    | _::_::_::_,hd=>simp only [List.length_cons]at hd; omega
  · match data,hd with
    | [a,b,c],_ =>
      have:p=0∨p=1∨p=2∨p=3:=by omega
      rcases this with rfl | rfl | rfl | rfl<;>simp [yCm,nth,List.range_succ,List.replicate_succ]
    | [],hd=>simp at hd
    | [_],hd=>simp at hd
    | [_,_],hd=>simp at hd
    | _::_::_::_::_,hd=>simp only [List.length_cons]at hd; omega
  · match data,hd with
    | [a,b,c,d],_ =>
      have:p=0∨p=1∨p=2∨p=3∨p=4:=by omega
      rcases this with rfl | rfl | rfl | rfl | rfl<;>simp [yCm,nth,List.range_succ,List.replicate_succ]
    | [],hd=>simp at hd
    | [_],hd=>simp at hd
    | [_,_],hd=>simp at hd
    | [_,_,_],hd=>simp at hd
    | _::_::_::_::_::_,hd=>simp only [List.length_cons]at hd; omega
def yah (a:dA):dA:=bif leb 4 (IntKind.i64.wrap (a.2.2.2.2.2.1 - a.2.2.2.2.2.2.1)) then yC a else a
def ydS (a:dA) (s:Int) (d:List Int):Int×dA :=
  bif yo (yah a) then (6,yah a) else
  bif yo (ygD (yah a) ((yah a).2.2.2.2.2.1,s,d)) then (6,ygD (yah a) ((yah a).2.2.2.2.2.1,s,d)) else
  (bif yo (ycc (ye5 (ygD (yah a) ((yah a).2.2.2.2.2.1,s,d))) s d) then 6 else 0,ycc (ye5 (ygD (yah a) ((yah a).2.2.2.2.2.1,s,d))) s d)
theorem yMt (a:dA):(yC a).2.1=a.2.1:=by
  unfold yC
  cases yo (yab a)
  · exact (ygy (yxa (yju (yab a)))).trans (show (yab a).2.1=a.2.1 from ygy (yoR a))
  · exact ygy (yoR a)
theorem yPr (a:dA):(yah a).2.1=a.2.1:=by
  unfold yah
  cases leb 4 (IntKind.i64.wrap (a.2.2.2.2.2.1 - a.2.2.2.2.2.2.1))
  · rfl
  · exact yMt a
theorem yRZ (a:dA):(yah a).2.2.1.length=a.2.2.1.length:=by
  unfold yah
  cases leb 4 (IntKind.i64.wrap (a.2.2.2.2.2.1 - a.2.2.2.2.2.2.1))
  · rfl
  · exact yrH a
end
section
def yzS:Code:=(Tryz.f236.body).getD .skip
def yAj:Env:=zki TT [(83,yhI),(115,yq),(245,yeS)] []
theorem yFg:FrOk Tryz.prog ⟨yAj,48,fun _=>none⟩ yzS:=zkp ye yf ⟨ynQ,yu,ykc,trivial⟩
def yHe:Nat→Option Seg:=fun _=>none
abbrev yi6:List Par:= [.rd tA,.rd tI,.rd tL]
abbrev ynI:List OT:= [⟨false,tI,.fz⟩]
def yqt (a0:dA) (a1:Int) (a2:List Int):Option (ResD ynI×MutD yi6) :=
  let r1:=yak a0
  bif (!(!r1)) then
    bif (!((a2.length:Int) !=(IntKind.i64.wrap (a0.2.1.1 - 1)))) then
      let r2:=yJ a2
      bif (!r2) then
        some ((1,()),())
      else
        bif a0.2.2.2.2.2.2.2.2.2.2.1 then
          some ((6,()),())
        else
          let r3:=yb a1 0 (IntKind.i64.wrap (a0.2.1.2 - 1))
          bif (!r3) then
            some ((2,()),())
          else
            bif a0.2.2.2.2.2.2.2.2.2.2.2 then
              some ((5,()),())
            else
              bif (!(leb 60000 a0.2.2.2.2.2.1)) then
                bif (leb 59990 a0.2.2.2.2.2.2.2.1) then
                  some ((7,()),())
                else
                  some ((0,()),())
              else
                some ((7,()),())
    else
      some ((1,()),())
  else
    some ((1,()),())
theorem yNq (x:InD yi6):zjH ⟨yAj,48,yHe⟩ Tryz.f236.results.toList yzS yi6 ynI x=yqt x.1 x.2.1 x.2.2.1:=by kernel_rfl
theorem yJC:ConOk Tryz.prog 236 ⟨yi6,ynI,fun x=>yqt x.1 x.2.1 x.2.2.1⟩:=zkh (yFg) Tryz.func236 (by kernel_rfl) (by kernel_rfl) Tryz.ntmps236.symm (by decide) (fun x r h=>(yNq x).trans h)
def yal (a0:dA) (a1:Int) (a2:List Int):Int :=
  let r1:=yak a0
  bif (!(!r1)) then
    bif (!((a2.length:Int) !=(IntKind.i64.wrap (a0.2.1.1 - 1)))) then
      let r2:=yJ a2
      bif (!r2) then
        1
      else
        bif a0.2.2.2.2.2.2.2.2.2.2.1 then
          6
        else
          let r3:=yb a1 0 (IntKind.i64.wrap (a0.2.1.2 - 1))
          bif (!r3) then
            2
          else
            bif a0.2.2.2.2.2.2.2.2.2.2.2 then
              5
            else
              bif (!(leb 60000 a0.2.2.2.2.2.1)) then
                bif (leb 59990 a0.2.2.2.2.2.2.2.1) then
                  7
                else
                  0
              else
                7
    else
      1
  else
    1
def yw3:Con:=⟨yi6,ynI,fun x=>(fun n=>some ((n,()),())) (yal x.1 x.2.1 x.2.2.1)⟩
theorem yLp (a0:dA) (a1:Int) (a2:List Int):yqt a0 a1 a2=(fun n=>some ((n,()),())) (yal a0 a1 a2):=zkS (p:=fun (n:Int)=>((n,()),())) (zkx (p:=fun (n:Int)=>((n,()),())) (zkx (p:=fun (n:Int)=>((n,()),())) (zkx (p:=fun (n:Int)=>((n,()),())) rfl (zkx (p:=fun (n:Int)=>((n,()),())) rfl (zkx (p:=fun (n:Int)=>((n,()),())) rfl (zkx (p:=fun (n:Int)=>((n,()),())) rfl (zkx (p:=fun (n:Int)=>((n,()),())) (zkx (p:=fun (n:Int)=>((n,()),())) rfl rfl) rfl))))) rfl) rfl)
theorem yMj:ConOk Tryz.prog 236 yw3:=(yJC).mono (fun x r _ h=>(yLp x.1 x.2.1 x.2.2.1).trans h)
def yCn (l:List dW) (k:Nat):List dW:=l.take k++l.drop (k+1)
def yhK (a:dA) (s:Int):Int×dA :=
  bif ltb (yT a.2.2.2.2.2.2.2.2.1 s) 0 then (0,a) else
  bif yal a s (nth a.2.2.2.2.2.2.2.2.1 (yT a.2.2.2.2.2.2.2.2.1 s) (0,[])).2 !=0 then (yal a s (nth a.2.2.2.2.2.2.2.2.1 (yT a.2.2.2.2.2.2.2.2.1 s) (0,[])).2,a) else
  bif (ydS a s (nth a.2.2.2.2.2.2.2.2.1 (yT a.2.2.2.2.2.2.2.2.1 s) (0,[])).2).1==0 then
    (0,yzq (ydS a s (nth a.2.2.2.2.2.2.2.2.1 (yT a.2.2.2.2.2.2.2.2.1 s) (0,[])).2).2 (yCn a.2.2.2.2.2.2.2.2.1 (yT a.2.2.2.2.2.2.2.2.1 s).toNat))
  else ydS a s (nth a.2.2.2.2.2.2.2.2.1 (yT a.2.2.2.2.2.2.2.2.1 s) (0,[])).2
theorem yMv {a:dA} {s:Int} {d:List Int} (h:yal a s d=0):yv a=true∧(d.length:Int)=a.2.1.1 - 1∧d.all isW=true∧yo a=false∧yS a.2.1 s=true∧a.2.2.2.2.2.2.2.2.2.2.2=false∧a.2.2.2.2.2.1 < 60000∧a.2.2.2.2.2.2.2.1 < 59990:=by
  unfold yal at h
  simp only [yak,ysr,yaL]at h
  cases ha:yv a
  · rw [ha]at h; exact absurd (show (1:Int)=0 from h) (by decide)
  have hg:=yn.1 (yac ha)
  rw [ha,wr (show -9223372036854775808≤a.2.1.1 - 1 by omega) (by omega),wr (show -9223372036854775808≤a.2.1.2 - 1 by omega) (by omega)] at h
  cases hl:((d.length:Int) !=a.2.1.1 - 1)
  · cases hw:d.all isW
    · rw [hl,hw]at h; exact absurd (show (1:Int)=0 from h) (by decide)
    cases hd:a.2.2.2.2.2.2.2.2.2.2.1
    · cases hs:(leb 0 s&&leb s (a.2.1.2 - 1))
      · rw [hl,hw,hd,hs]at h; exact absurd (show (2:Int)=0 from h) (by decide)
      cases hb:a.2.2.2.2.2.2.2.2.2.2.2
      · cases h6:leb 60000 a.2.2.2.2.2.1
        · cases h7:leb 59990 a.2.2.2.2.2.2.2.1
          · have e6: ¬ (60000≤a.2.2.2.2.2.1):=fun g=>by rw [zk0 g]at h6; cases h6
            have e7: ¬ (59990≤a.2.2.2.2.2.2.2.1):=fun g=>by rw [zk0 g]at h7; cases h7
            exact ⟨rfl,bne_eq_false_iff_eq.1 hl,rfl,hd,by unfold yS; rw [yac ha,hs]; rfl,rfl,by omega,by omega⟩
          · rw [hl,hw,hd,hs,hb,h6,h7]at h; exact absurd (show (7:Int)=0 from h) (by decide)
        · rw [hl,hw,hd,hs,hb,h6]at h; exact absurd (show (7:Int)=0 from h) (by decide)
      · rw [hl,hw,hd,hs,hb]at h; exact absurd (show (5:Int)=0 from h) (by decide)
    · rw [hl,hw,hd]at h; exact absurd (show (6:Int)=0 from h) (by decide)
  · rw [hl]at h; exact absurd (show (1:Int)=0 from h) (by decide)
theorem yMu (a:dA):(yah a).2.2.2.2.2.2.2.2.1=a.2.2.2.2.2.2.2.2.1:=by
  unfold yah
  cases leb 4 (IntKind.i64.wrap (a.2.2.2.2.2.1 - a.2.2.2.2.2.2.1))
  · rfl
  · exact yrt a
theorem yPm (a:dA):(ye5 a).2.2.2.2.2.2.2.2.1=a.2.2.2.2.2.2.2.2.1:=rfl
theorem yPp (a:dA) (s:Int) (d:List Int):(ydS a s d).2.2.2.2.2.2.2.2.2.1=a.2.2.2.2.2.2.2.2.1:=by
  unfold ydS
  have h2:=(yHA (yro (yah a) ((yah a).2.2.2.2.2.1,s,d))).trans (yMu a)
  generalize ygD (yah a) ((yah a).2.2.2.2.2.1,s,d)=R at h2 ⊢
  have h3:=(yHA (yBu (ye5 R) s d)).trans ((yPm R).trans h2)
  generalize ycc (ye5 R) s d=Q at h3 ⊢
  cases yo (yah a)
  · cases yo R
    · exact h3
    · exact h2
  · exact yMu a
theorem yPY {l:List dW} {k:Int} (h0:0≤k) (h1:k < (l.length:Int)):(([]:List dW)++((l.drop (0:Int).toNat).take (k - 0).toNat))++((l.drop (k+1).toNat).take ((l.length:Int) - (k+1)).toNat)=yCn l k.toNat:=by
  unfold yCn
  rw [List.nil_append,show (0:Int).toNat=0 from rfl,List.drop_zero,Int.sub_zero,show (k+1).toNat=k.toNat+1 by omega,List.take_of_length_le (l:=l.drop (k.toNat+1)) (by rw [List.length_drop]; omega)]
def yEp (_:Nat) (a:dA):dA ⊕ (Int×dA):=bif (yhK a (nth a.2.2.2.2.2.2.2.2.1 0 (0,[])).1).1 !=0 then .inr (yhK a (nth a.2.2.2.2.2.2.2.2.1 0 (0,[])).1) else .inl (yhK a (nth a.2.2.2.2.2.2.2.2.1 0 (0,[])).1).2
def yQp (a:dA):Int×dA:=goE yEp (fun b=>(0,b)) a.2.2.2.2.2.2.2.2.1.length 0 a
theorem yPE {e:dW} {l:List dW}:yT (e::l) e.1=0:=by
  unfold yT
  rw [yty,show (e.1==e.1)=true from beq_self_eq_true _]; rfl
theorem yPG {a:dA} (h:0 < a.2.2.2.2.2.2.2.2.1.length) (h0:(yhK a (nth a.2.2.2.2.2.2.2.2.1 0 (0,[])).1).1=0):(yhK a (nth a.2.2.2.2.2.2.2.2.1 0 (0,[])).1).2.2.2.2.2.2.2.2.2.1=a.2.2.2.2.2.2.2.2.1.drop 1:=by
  unfold yhK at h0 ⊢
  have hk:yT a.2.2.2.2.2.2.2.2.1 (nth a.2.2.2.2.2.2.2.2.1 0 (0,[])).1=0:=by
    cases hl:a.2.2.2.2.2.2.2.2.1 with
    | nil=>rw [hl]at h; exact absurd h (Nat.lt_irrefl 0)
    | cons e l=>exact yPE
  rw [hk]at h0 ⊢
  generalize (nth a.2.2.2.2.2.2.2.2.1 0 (0,[])).2=D at h0 ⊢
  generalize (nth a.2.2.2.2.2.2.2.2.1 0 (0,[])).1=s at h0 ⊢
  cases hc:(yal a s D !=0)
  · rw [hc]at h0
    cases hr:((ydS a s D).1==0)
    · rw [hr]at h0
      exact absurd (show (ydS a s D).1=0 from h0) (beq_eq_false_iff_ne.1 hr)
    · rfl
  · rw [hc]at h0
    exact absurd (show yal a s D=0 from h0) (bne_iff_ne.1 hc)
def yOf (g:dG) (e:dW):Prop:=(0≤e.1∧e.1≤g.2 - 1)∧(e.2.length:Int)=g.1 - 1∧e.2.all isW=true
theorem yw5 {g:dG} {l:List dW}:yay g l=true↔(∀ e∈l,yOf g e)∧l.Pairwise (fun x y=>x.1 < y.1):=by
  have bad: ∀ i,yfo g l i=false↔yOf g (nth l i (0,[]))∧(0 < i→(nth l ((i - 1:Nat):Int) (0,[])).1 < (nth l i (0,[])).1):=by
    intro i
    unfold yfo yOf
    simp only [Bool.or_eq_false_iff,Bool.not_eq_false',bne_eq_false_iff_eq,Bool.and_eq_true,Bool.and_eq_false_iff,decide_eq_false_iff_not,zjQ]
    constructor
    · rintro ⟨h1,h2,h3,h4⟩
      refine ⟨⟨h1,h2,h3⟩,fun h0=> ?_⟩
      rcases h4 with h4 | h4
      · exact absurd h0 h4
      · have:=mt zk0 (by rw [h4]; simp: ¬ leb (nth l i (0,[])).1 (nth l ((i - 1:Nat):Int) (0,[])).1=true)
        omega
    · rintro ⟨⟨h1,h2,h3⟩,h4⟩
      refine ⟨h1,h2,h3,?_⟩
      by_cases h0:0 < i
      · exact .inr (zkZ (by have:=h4 h0; omega))
      · exact .inl h0
  unfold yay
  simp only [Bool.not_eq_true',List.any_eq_false,List.mem_range,Bool.not_eq_true,bad]
  constructor
  · intro h
    refine ⟨fun e he=> ?_,?_⟩
    · obtain ⟨i,hi,rfl⟩:=List.getElem_of_mem he
      have:=(h i hi).1
      rwa [zjW,zcq hi]at this
    · rw [List.pairwise_iff_getElem]
      have step: ∀ (d i:Nat) (hi:i < l.length) (hj:i+d+1 < l.length),l[i].1 < l[i+d+1].1:=by
        intro d
        induction d with
        | zero =>
          intro i hi hj
          have:=(h (i+1) hj).2 (by omega)
          rwa [Nat.add_sub_cancel,zjW,zjW,zcq hi,zcq hj]at this
        | succ d ih =>
          intro i hi hj
          have h1:=ih i hi (by omega)
          have:=(h (i+d+1+1) hj).2 (by omega)
          rw [Nat.add_sub_cancel,zjW,zjW,zcq (show i+d+1 < l.length by omega),zcq (show i+d+1+1 < l.length from hj)] at this
          exact Int.lt_trans h1 this
      intro i j hi hj hij
      have:=step (j - i - 1) i hi (by omega)
      have e:i+(j - i - 1)+1=j:=by omega
      simp only [e]at this
      exact this
  · rintro ⟨h1,h2⟩ i hi
    rw [List.pairwise_iff_getElem]at h2
    refine ⟨by rw [zjW,zcq hi]; exact h1 _ (List.getElem_mem hi),fun h0=> ?_⟩
    rw [zjW,zjW,zcq hi,zcq (show i - 1 < l.length by omega)]
    exact h2 (i - 1) i (by omega) hi (by omega)
theorem yPZ {g:dG} {l:List dW} (k:Nat) (h:yay g l=true):yay g (yCn l k)=true:=by
  rw [yw5]at h ⊢
  have hs:(yCn l k).Sublist l:=by
    unfold yCn
    have:(l.take k++l.drop (k+1)).Sublist (l.take k++l.drop k):=List.Sublist.append_left (by rw [← List.drop_drop]; exact List.drop_sublist _ _) _
    rwa [List.take_append_drop]at this
  exact ⟨fun e he=>h.1 e (hs.subset he),h.2.sublist hs⟩
theorem yO0 (e:dW): ∀ (l acc:List dW),l.foldl (ya3 e) (true,acc)=(true,acc++l.filter (fun x=>x.1 !=e.1))
  | [],acc=>by simp
  | x::t,acc=>by
    rw [List.foldl_cons]
    have:ya3 e (true,acc) x=(true,acc++(bif x.1 !=e.1 then [x] else [])):=rfl
    rw [this,yO0 e t,List.filter_cons]
    cases x.1 !=e.1<;>simp
theorem yQc {e:dW} {l:List dW} (h:l.Pairwise (fun x y=>x.1 < y.1)):yCf l e=l.filter (fun x=>ltb x.1 e.1)++e::l.filter (fun x=>ltb e.1 x.1):=by
  have: ∀ (l acc:List dW),l.Pairwise (fun x y=>x.1 < y.1)→(bif (l.foldl (ya3 e) (false,acc)).1 then (l.foldl (ya3 e) (false,acc)).2 else (l.foldl (ya3 e) (false,acc)).2++ [e])=acc++(l.filter (fun x=>ltb x.1 e.1)++e::l.filter (fun x=>ltb e.1 x.1)):=by
    intro l
    induction l with
    | nil=>intro acc _; simp
    | cons x t ih =>
      intro acc h
      obtain ⟨hx,ht⟩:=List.pairwise_cons.1 h
      rw [List.foldl_cons]
      by_cases hle:e.1≤x.1
      · have h1:ya3 e (false,acc) x=(true,(acc++ [e])++(bif x.1 !=e.1 then [x] else [])):=by
          unfold ya3; rw [zk0 hle]; rfl
        have h2:t.filter (fun x=>x.1 !=e.1)=t:=List.filter_eq_self.2 (fun y hy=>bne_iff_ne.2 (by have:=hx y hy; omega))
        have h3:t.filter (fun x=>ltb x.1 e.1)= []:=List.filter_eq_nil_iff.2 (fun y hy=>by rw [zkm (by have:=hx y hy; omega)]; simp)
        have h4:t.filter (fun x=>ltb e.1 x.1)=t:=List.filter_eq_self.2 (fun y hy=>zjI (by have:=hx y hy; omega))
        rw [h1,yO0,h2,List.filter_cons,List.filter_cons,h3,h4,zkm (show e.1≤x.1 by omega)]
        by_cases he:x.1=e.1
        · rw [show (x.1 !=e.1)=false from bne_eq_false_iff_eq.2 he,zkm (show x.1≤e.1 by omega)]; simp
        · rw [show (x.1 !=e.1)=true from bne_iff_ne.2 he,zjI (show e.1 < x.1 by omega)]; simp
      · have h1:ya3 e (false,acc) x=(false,acc++ [x]):=by
          unfold ya3; rw [zkZ (show x.1 < e.1 by omega),show (x.1 !=e.1)=true from bne_iff_ne.2 (by omega)]; rfl
        rw [h1,ih _ ht,List.filter_cons,List.filter_cons,zjI (show x.1 < e.1 by omega),zkm (show x.1≤e.1 by omega)]
        simp
  have:=this l [] h
  rw [List.nil_append]at this
  exact this
theorem yP0 {g:dG} {l:List dW} {e:dW} (h:yay g l=true) (he:yOf g e):yay g (yCf l e)=true:=by
  rw [yw5]at h ⊢
  rw [yQc h.2]
  refine ⟨fun x hx=> ?_,?_⟩
  · rcases List.mem_append.1 hx with h1 | h1
    · exact h.1 x (List.mem_filter.1 h1).1
    · rcases List.mem_cons.1 h1 with rfl | h1
      · exact he
      · exact h.1 x (List.mem_filter.1 h1).1
  · rw [List.pairwise_append,List.pairwise_cons]
    refine ⟨h.2.filter _,⟨fun y hy=>zjT.1 (List.mem_filter.1 hy).2,h.2.filter _⟩,fun x hx y hy=> ?_⟩
    have h1:=zjT.1 (List.mem_filter.1 hx).2
    rcases List.mem_cons.1 hy with rfl | hy
    · exact h1
    · exact Int.lt_trans h1 (zjT.1 (List.mem_filter.1 hy).2)
theorem yrK {g:dG} {l:List dW} (h:yay g l=true) (hg:yd g=true):l.length≤8:=by
  rw [yw5]at h
  have hg:=yn.1 hg
  have:=yyj (l:=l.map (fun e=>e.1)) (lo:=0) (n:=g.2) (by rw [List.pairwise_map]; exact h.2) (fun x hx=>by
    obtain ⟨e,he,rfl⟩:=List.mem_map.1 hx
    have:=(h.1 e he).1; omega) (by omega)
  rw [List.length_map]at this
  omega
theorem yQy {a:dA} (r:dN) (h:ycz a):ycz (ygD a r) :=
  yr3 (yij (P:=ycz) (one:=yr8 r) (yqu r) (fun _ _ h hi=>yy9 h (zkO hi)) _ a (Nat.le_refl _) h)
theorem yQw {a:dA} (r:dN) (h:yei a):yei (ygD a r) :=
  yrU (yij (P:=yei) (one:=yr8 r) (yqu r) (fun _ _ h _=>yy8 h _ _ _) _ a (Nat.le_refl _) h)
theorem yP6 {a:dA} (s:Int) (d:List Int) (h:ycz a):ycz (ycc a s d) :=
  yij (P:=ycz) (one:=ydo (yp a.2.1 s) a.2.1.1 s d) (ymR _ _ _ _) (fun b i h hi=>by
    unfold ydo
    cases yb4 b i s
    · exact h
    · exact yy9 h (zkO hi)) _ a (Nat.le_refl _) h
theorem yP3 {a:dA} (s:Int) (d:List Int) (h:yei a):yei (ycc a s d) :=
  yij (P:=yei) (one:=ydo (yp a.2.1 s) a.2.1.1 s d) (ymR _ _ _ _) (fun b i h hi=>by
    unfold ydo
    cases yb4 b i s
    · exact h
    · exact yy8 h _ _ _) _ a (Nat.le_refl _) h
theorem yRk {k:Int} {a:dA} (r:dN) (h:Wk k a):Wk k (ygD a r):=ytC (yro _ _) (yQy r h.2.1) (yQw r h.2.2.1) h
theorem yQX {k:Int} {a:dA} (s:Int) (d:List Int) (h:Wk k a):Wk k (ycc a s d):=ytC (yBu _ _ _) (yP6 s d h.2.1) (yP3 s d h.2.2.1) h
theorem yQC {k:Int} {a:dA} (h:Wk k a) (h1:a.2.2.2.2.2.1 < 60000) (h2:a.2.2.2.2.2.1 - a.2.2.2.2.2.2.1≤3):Wk k (ye5 a):=by
  obtain ⟨⟨c1,c2,c3,c4,c5,c6,c7,c8,c9,c10,c11⟩,g2,g3,g4,g5⟩:=h
  have e:IntKind.i64.wrap (a.2.2.2.2.2.1+1)=a.2.2.2.2.2.1+1:=wr (by omega) (by omega)
  refine ⟨⟨c1,c2,c3,c4,c5,c6,c7,⟨?_,?_⟩,?_,c10,c11⟩,g2,g3,g4,g5⟩
  · show a.2.2.2.2.2.2.1≤IntKind.i64.wrap (a.2.2.2.2.2.1+1); omega
  · show IntKind.i64.wrap (a.2.2.2.2.2.1+1)≤60000; omega
  · show IntKind.i64.wrap (a.2.2.2.2.2.1+1)≤a.2.2.2.2.2.2.1+4; omega
theorem yOk {a b:dA} (h:yG a=yG b):a.2.2.2.2.2.1=b.2.2.2.2.2.1:=congrArg (fun x=>x.2.2.2.2.1) h
theorem yMw {a b:dA} (h:yG a=yG b):a.2.2.2.2.2.2.1=b.2.2.2.2.2.2.1:=congrArg (fun x=>x.2.2.2.2.2.1) h
theorem yHy {a:dA} (h:yei a):yG (yC a)=yG (yik (yju a)):=by
  rw [yy2 h,yxa]
  have:=yoR a
  unfold yG at this ⊢
  simp only [Prod.mk.injEq]at this
  obtain ⟨h1,h2,h3,h4,h5,h6,h7,h8,h9⟩:=this
  unfold yik yju
  simp only [h1,h2,h3,h4,h5,h7,h8,h9]
theorem yRh {k:Int} {a:dA} (h:Wk k a) (hk:k+1≤60000):Wk (k+1) (yah a)∧(yah a).2.2.2.2.2.1=a.2.2.2.2.2.1∧(yah a).2.2.2.2.2.1 - (yah a).2.2.2.2.2.2.1≤3:=by
  have c:=h.1
  unfold yup at c
  unfold yah
  rw [wr (by omega) (by omega)]
  cases h4:leb 4 (a.2.2.2.2.2.1 - a.2.2.2.2.2.2.1)
  · refine ⟨yP h (by omega),rfl,?_⟩
    have: ¬ (4≤a.2.2.2.2.2.1 - a.2.2.2.2.2.2.1):=fun g=>by rw [zk0 g]at h4; cases h4
    show a.2.2.2.2.2.1 - a.2.2.2.2.2.2.1≤3; omega
  · have e1:(yC a).2.2.2.2.2.1=a.2.2.2.2.2.1:=(yOk (yHy h.2.2.1)).trans rfl
    have e2:(yC a).2.2.2.2.2.2.1=a.2.2.2.2.2.1:=(yMw (yHy h.2.2.1)).trans rfl
    rw [cond_true]
    exact ⟨yPb h hk,e1,by omega⟩
theorem yQF {k:Int} {a:dA} (s:Int) (d:List Int) (h:Wk k a) (hs:a.2.2.2.2.2.1 < 60000) (hk:k+1≤60000):Wk (k+1) (ydS a s d).2∧(ydS a s d).1=0:=by
  obtain ⟨h1,h2,h3⟩:=yRh h hk
  have h4:=yRk ((yah a).2.2.2.2.2.1,s,d) h1
  have e1:=yOk (yro (yah a) ((yah a).2.2.2.2.2.1,s,d))
  have e2:=yMw (yro (yah a) ((yah a).2.2.2.2.2.1,s,d))
  unfold ydS
  generalize ygD (yah a) ((yah a).2.2.2.2.2.1,s,d)=R at h4 e1 e2 ⊢
  have h5:=yQX s d (yQC h4 (by omega) (by omega))
  generalize ycc (ye5 R) s d=Q at h5 ⊢
  rw [h1.2.2.1.1,h4.2.2.1.1,h5.2.2.1.1]
  exact ⟨h5,rfl⟩
theorem yD1 {k:Int} {a:dA} {l:List dW} (h:Wk k a) (hd:yay a.2.1 l=true):Wk k (yzq a l):=by
  obtain ⟨⟨c1,c2,c3,c4,c5,c6,c7,c8,c9,c10,c11⟩,g2,g3,g4,g5⟩:=h
  exact ⟨⟨c1,c2,hd,c4,c5,c6,c7,c8,c9,c10,c11⟩,g2,g3,g4,g5⟩
theorem yQl (a:dA) (s:Int) (d:List Int):(ydS a s d).2.2.1=a.2.1:=by
  unfold ydS
  have h2:=(ygy (yro (yah a) ((yah a).2.2.2.2.2.1,s,d))).trans (yPr a)
  generalize ygD (yah a) ((yah a).2.2.2.2.2.1,s,d)=R at h2 ⊢
  have h3:=(ygy (yBu (ye5 R) s d)).trans (show (ye5 R).2.1=a.2.1 from h2)
  generalize ycc (ye5 R) s d=Q at h3 ⊢
  cases yo (yah a)
  · cases yo R
    · exact h3
    · exact h2
  · exact yPr a
theorem yPc {k:Int} {a:dA} (s:Int) (h:Wk k a) (hk:k+1≤60000):Wk (k+1) (yhK a s).2:=by
  unfold yhK
  cases ltb (yT a.2.2.2.2.2.2.2.2.1 s) 0
  · generalize hD:(nth a.2.2.2.2.2.2.2.2.1 (yT a.2.2.2.2.2.2.2.2.1 s) (0,[])).2=D
    cases hc:(yal a s D !=0)
    · have hz:=yMv (bne_eq_false_iff_eq.1 hc)
      obtain ⟨h1,h2⟩:=yQF s D h hz.2.2.2.2.2.2.1 hk
      rw [show ((ydS a s D).1==0)=true from beq_iff_eq.2 h2]
      exact yD1 h1 (by rw [yQl]; exact yPZ _ h.1.2.2.1)
    · exact yP h (by omega)
  · exact yP h (by omega)
theorem yPd {k:Int}: ∀ (n i:Nat) (j:Int) (a:dA),Wk j a→j+n≤k→k≤60000→Wk k (goE yEp (fun b=>((0:Int),b)) n i a).2
  | 0,_,j,a,h,h1,_=>yP h (by omega)
  | n+1,i,j,a,h,h1,h2=>by
    have h3:=yPc (nth a.2.2.2.2.2.2.2.2.1 0 (0,[])).1 h (by omega)
    unfold goE yEp
    cases ((yhK a (nth a.2.2.2.2.2.2.2.2.1 0 (0,[])).1).1 !=0)
    · exact yPd n (i+1) (j+1) _ h3 (by omega) h2
    · exact yP h3 (by omega)
theorem yRg {k:Int} {a:dA} (h:Wk k a) (hk:k+8≤60000):Wk (k+8) (yQp a).2:=by
  have:=yrK h.1.2.2.1 h.1.1
  exact yPd _ 0 k a h (by omega) hk
theorem yRl {k:Int} {a:dA} {b n:Int} (h:Wk k a) (hb:yih a.2.1 b=true) (hn:isW n=true):Wk k (yKe a b n).2:=by
  unfold yKe
  cases hs:(ybz a (yb9 a.2.1 b)).2
  · exact h
  · have hstr:=yD0 hb
    have hl:=yAt (yQh h) hstr hs
    refine yD1 h (yP0 h.1.2.2.1 ⟨(ycy.1 hstr).2,by rw [List.length_set]; exact hl,yPB ?_ hn⟩)
    unfold ybz
    cases hk:leb 0 (yT a.2.2.2.2.2.2.2.2.1 (yb9 a.2.1 b))
    · rw [h.2.2.2.1]; exact yPX _ _
    · have:=(yuZ (d:=((0:Int),([]:List Int))) hk).1
      exact yyP (P:=fun e:dW=>e.2.all isW=true) this (fun e he=>((yw5.1 h.1.2.2.1).1 e he).2.2)
end
section
def yzI:Code:=(Tryz.f258.body).getD .skip
def yz9:Env:=zki TT [(222,yyp)] []
theorem yEV:FrOk Tryz.prog ⟨yz9,18,fun _=>none⟩ yzI:=zkp ye yf ⟨yNW,trivial⟩
def yG4:Nat→Option Seg:=fun _=>none
abbrev yfj:List Par:= [.rd tN]
abbrev ynw:List OT:= [⟨false,tL,(.ow .fz)⟩]
def yko (a0:dN):Option (ResD ynw×MutD yfj) :=
  let r1:=yda a0
  bif (!r1) then
    some ((([]:List Int),()),())
  else
    bif (zj4 ([21322,a0.1,a0.2.1,(a0.2.2.length:Int)]:List Int).length a0.2.2.length 8) then
      some (((([21322,a0.1,a0.2.1,(a0.2.2.length:Int)]:List Int)++a0.2.2),()),())
    else none
theorem yNb (x:InD yfj):zjH ⟨yz9,18,yG4⟩ Tryz.f258.results.toList yzI yfj ynw x=yko x.1:=by kernel_rfl
theorem yJn:ConOk Tryz.prog 258 ⟨yfj,ynw,fun x=>yko x.1⟩:=zkh (yEV) Tryz.func258 (by kernel_rfl) (by kernel_rfl) Tryz.ntmps258.symm (by decide) (fun x r h=>(yNb x).trans h)
def yjm (a0:dN):List Int:=yJV a0
theorem yLg (a0:dN) (hk:zi9 yfj (a0,())):yko a0=(fun n=>some ((n,()),())) (yjm a0):=by
  unfold yko yjm yJV
  cases hr:yda a0
  · rfl
  · have:=(yQd.1 hr).2.2.1
    rw [zkw.2 (show (([21322,a0.1,a0.2.1,(a0.2.2.length:Int)]:List Int).length+a0.2.2.length) * 8≤140737488355328 by simp only [List.length_cons,List.length_nil]; omega)]; rfl
def ywT:Con:=⟨yfj,ynw,fun x=>(fun n=>some ((n,()),())) (yjm x.1)⟩
theorem yL9:ConOk Tryz.prog 258 ywT:=(yJn).mono (fun x r hk h=>(yLg x.1 hk).trans h)
end
end
end Go.Tf
