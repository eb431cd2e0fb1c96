/- Functions of the program, and what they come to. -/
import Derived.Test.YtgmadfpnljibhaaWordsF5
namespace Go.Tf
noncomputable section
open Go.Proofs
set_option synthInstance.maxHeartbeats 400000
set_option synthInstance.maxSize 10000
set_option linter.unusedVariables false
set_option linter.unusedSimpArgs false
set_option maxRecDepth 100000
section
def yub:Code:=(Try.f148.body).getD .skip
def yuG:Env:=zki TT [(151,yqR),(176,yvf)] []
theorem yzF:FrOk Try.prog ⟨yuG,28,fun _=>none⟩ yub:=zkp yc yd ⟨yz8,yJD,trivial⟩
def yAy:Nat→Option Seg:=fun _=>none
abbrev ybD:List Par:= [.rd tA,.rd tI]
abbrev yfJ:List OT:= [⟨false,tL,(.ow .fz)⟩,⟨false,tB,.fz⟩]
def ygz (a0:dA) (a1:Int):Option (ResD yfJ×MutD ybD) :=
  let r1:=yf8 a0 a1
  bif (leb 0 r1) then
    bif (inb r1 a0.2.2.2.2.2.2.2.2.1.length) then
      bif (zj4 ([]:List Int).length ((nth a0.2.2.2.2.2.2.2.2.1 r1 (0,[])).2).length 8) then
        some (((([]:List Int)++((nth a0.2.2.2.2.2.2.2.2.1 r1 (0,[])).2)),true,()),())
      else none
    else none
  else
    bif a0.2.2.2.2.2.2.2.2.2.2.2 then
      some ((([]:List Int),false,()),())
    else
      bnd (ymP a0 a1) fun r2 =>
      some ((r2.1.1,r2.1.2.1,()),())
theorem yFy (x:InD ybD):zjH ⟨yuG,28,yAy⟩ Try.f148.results.toList yub ybD yfJ x=ygz x.1 x.2.1:=by kernel_rfl
theorem yBH:ConOk Try.prog 148 ⟨ybD,yfJ,fun x=>ygz x.1 x.2.1⟩:=zkh (yzF) Try.func148 (by kernel_rfl) (by kernel_rfl) Try.ntmps148.symm (by decide) (fun x r h=>(yFy x).trans h)
def yfX (a0:dA) (a1:Int):List Int×Bool:=yav a0 a1
def yo3 (a0:dA) (a1:Int):Bool:=yV a0.2.1 a1
theorem yDY (a0:dA) (a1:Int) (hk:zi9 ybD (a0,a1,())) (hq:yo3 a0 a1=true):ygz a0 a1=(fun n=>some ((n.1,n.2,()),())) (yfX a0 a1):=by
  unfold ygz yfX yav yf8
  rw [yJK a0 a1 hq]
  simp only [List.nil_append]
  cases h:leb 0 (yE a0.2.2.2.2.2.2.2.2.1 a1)
  · cases a0.2.2.2.2.2.2.2.2.2.2.2<;>rfl
  · have h1:=(ypI (d:=((0,[]):dW)) h).1
    have h2:(nth a0.2.2.2.2.2.2.2.2.1 (yE a0.2.2.2.2.2.2.2.2.1 a1) (0,[])).2.length * 8≤2 ^ 47:=ysb (P:=fun x:dW=>x.2.length * 8≤2 ^ 47) h1 (fun x hx=>(hk.1.2.2.2.2.2.2.2.2.1.2 x hx).2.1)
    rw [show inb (yE a0.2.2.2.2.2.2.2.2.1 a1) a0.2.2.2.2.2.2.2.2.1.length=true from h1,zkw.2 (show (([]:List Int).length+(nth a0.2.2.2.2.2.2.2.2.1 (yE a0.2.2.2.2.2.2.2.2.1 a1) (0,[])).2.length) * 8≤140737488355328 by rw [List.length_nil]; omega)]; rfl
def yjy (a0:dA) (a1:Int):Option (ResD yfJ×MutD ybD):=bif yo3 a0 a1 then (fun n=>some ((n.1,n.2,()),())) (yfX a0 a1) else none
theorem yEq (a0:dA) (a1:Int) (h:yo3 a0 a1=true):yjy a0 a1=(fun n=>some ((n.1,n.2,()),())) (yfX a0 a1):=by unfold yjy; rw [h]; rfl
def yrq:Con:=⟨ybD,yfJ,fun x=>yjy x.1 x.2.1⟩
theorem yEo:ConOk Try.prog 148 yrq:=(yBH).mono (fun x r hk h=>zkW h (fun hq=>yDY x.1 x.2.1 hk hq))
end
section
def yvV:Code:=(Try.f149.body).getD .skip
def yws:Env:=zki TT [(60,yp),(89,yjr)] []
theorem yAW:FrOk Try.prog ⟨yws,16,fun _=>none⟩ yvV:=zkp yc yd ⟨yx,ypL,trivial⟩
def yB8:Nat→Option Seg:=fun _=>none
abbrev ydV:List Par:= [.rd tG,.rd tI]
abbrev ykP:List OT:= [⟨false,tI,.fz⟩]
def yhZ (a0:dG) (a1:Int):Option (ResD ykP×MutD ydV) :=
  let r1:=yo a0
  let r2:=ya a1 0 (IntKind.i64.wrap (r1 - 1))
  bif (!r2) then
    some (((-1),()),())
  else
    bif ((IntKind.i64.wrap (a0.1 - 1)) !=0) then
      some (((a1.tmod (IntKind.i64.wrap (a0.1 - 1))),()),())
    else none
theorem yIf (x:InD ydV):zjH ⟨yws,16,yB8⟩ Try.f149.results.toList yvV ydV ykP x=yhZ x.1 x.2.1:=by kernel_rfl
theorem yD6:ConOk Try.prog 149 ⟨ydV,ykP,fun x=>yhZ x.1 x.2.1⟩:=zkh (yAW) Try.func149 (by kernel_rfl) (by kernel_rfl) Try.ntmps149.symm (by decide) (fun x r h=>(yIf x).trans h)
def yhl (a0:dG) (a1:Int):Int:=ynP a0 a1
theorem yGw (a0:dG) (a1:Int) (hk:zi9 ydV (a0,a1,())):yhZ a0 a1=(fun n=>some ((n,()),())) (yhl a0 a1):=by
  unfold yhZ yhl ynP
  simp only [yNA]
  cases hb:blkOk a0 a1
  · rfl
  · obtain ⟨h1,h2,h3⟩:=yuI hb
    have h4:=yk.1 h1
    rw [wr (show -9223372036854775808≤a0.1 - 1 by omega) (by omega),show (a0.1 - 1 !=0)=true from bne_iff_ne.2 (by omega)]; rfl
def ysQ:Con:=⟨ydV,ykP,fun x=>(fun n=>some ((n,()),())) (yhl x.1 x.2.1)⟩
theorem yHm:ConOk Try.prog 149 ysQ:=(yD6).mono (fun x r hk h=>(yGw x.1 x.2.1 hk).trans h)
end
section
def yjZ:Code:=(Try.f150.body).getD .skip
def yn9:Env:=zki TT [] [(4096,(.pr .fz .fz)),(28800,(.pr .fz .fz)),(41472,(.pr .fz .fz)),(49280,(.pr .fz .fz))]
theorem yF8:FrOk Try.prog ⟨yn9,67,fun _=>none⟩ yjZ:=zkp yc yd trivial
def ywn:Nat→Option Seg:=fun _=>none
def ybQ:Shape:=⟨[(0,false,[.ptr 1000000000 0]),(3,false,[.ptr 0 0]),(4,false,[.at 800000000]),(5,false,[.bool]),(6,false,[.int .i64])],[(0,[.int .i64,.fz tI]),(1000000000,[.int .i64,.int .i64,.int .i64,.at 800000001,.int .i64,.int .i64,.int .i64,.int .i64,.int .i64,.at 800000002,.int .i64,.bool,.bool])],[(800000000,tW,(.pr .fz .fz)),(800000001,tM,(.pr (.ow .fz) (.pr (.ow (.pr .fz .fz)) (.pr .fz (.ow .fz))))),(800000002,tW,(.pr .fz .fz))]⟩
def yfE:Shape:=⟨[(0,false,[.ptr 1000000000 0]),(3,false,[.ptr 0 0]),(4,false,[.at 800000000]),(5,false,[.cb false]),(6,false,[.ci .i64 0])],[(0,[.int .i64,.fz tI]),(1000000000,[.int .i64,.int .i64,.int .i64,.at 800000001,.int .i64,.int .i64,.int .i64,.int .i64,.int .i64,.at 800000002,.int .i64,.bool,.bool])],[(800000000,tW,(.pr .fz .fz)),(800000001,tM,(.pr (.ow .fz) (.pr (.ow (.pr .fz .fz)) (.pr .fz (.ow .fz))))),(800000002,tW,(.pr .fz .fz))]⟩
def yfr:Shape:=⟨[(0,false,[.ptr 1000000000 0]),(3,false,[.ptr 0 0]),(4,false,[.at 800000000]),(5,false,[.bool])],[(0,[.int .i64,.fz tI]),(1000000000,[.int .i64,.int .i64,.int .i64,.at 800000001,.int .i64,.int .i64,.int .i64,.int .i64,.int .i64,.at 800000002,.int .i64,.bool,.bool])],[(800000000,tW,(.pr .fz .fz)),(800000001,tM,(.pr (.ow .fz) (.pr (.ow (.pr .fz .fz)) (.pr .fz (.ow .fz))))),(800000002,tW,(.pr .fz .fz))]⟩
def yjq:Shape:=⟨[],[],[]⟩
abbrev yno (v0:Bool) (v1:Int) (v2:dW) (v3:dA) (v4:List dW):(ybQ).X:=((((),()),((),()),((),()),(v0,()),(v1,()),()),((v2.1,v2.2,()),(v3.1,v3.2.1.1,v3.2.1.2,(),v3.2.2.2.1,v3.2.2.2.2.1,v3.2.2.2.2.2.1,v3.2.2.2.2.2.2.1,v3.2.2.2.2.2.2.2.1,(),v3.2.2.2.2.2.2.2.2.2.1,v3.2.2.2.2.2.2.2.2.2.2.1,v3.2.2.2.2.2.2.2.2.2.2.2,()),()),(v4,v3.2.2.1,v3.2.2.2.2.2.2.2.2.1,()))
abbrev yDE (v0:dW) (v1:dA) (v2:List dW):(yfE).X:=((((),()),((),()),((),()),((),()),((),()),()),((v0.1,v0.2,()),(v1.1,v1.2.1.1,v1.2.1.2,(),v1.2.2.2.1,v1.2.2.2.2.1,v1.2.2.2.2.2.1,v1.2.2.2.2.2.2.1,v1.2.2.2.2.2.2.2.1,(),v1.2.2.2.2.2.2.2.2.2.1,v1.2.2.2.2.2.2.2.2.2.2.1,v1.2.2.2.2.2.2.2.2.2.2.2,()),()),(v2,v1.2.2.1,v1.2.2.2.2.2.2.2.2.1,()))
abbrev yDr (v0:Bool) (v1:dW) (v2:dA) (v3:List dW):(yfr).X:=((((),()),((),()),((),()),(v0,()),()),((v1.1,v1.2,()),(v2.1,v2.2.1.1,v2.2.1.2,(),v2.2.2.2.1,v2.2.2.2.2.1,v2.2.2.2.2.2.1,v2.2.2.2.2.2.2.1,v2.2.2.2.2.2.2.2.1,(),v2.2.2.2.2.2.2.2.2.2.1,v2.2.2.2.2.2.2.2.2.2.2.1,v2.2.2.2.2.2.2.2.2.2.2.2,()),()),(v3,v2.2.2.1,v2.2.2.2.2.2.2.2.2.1,()))
def ynF (v0:Bool) (v1:Int) (v2:Int) (v3:List Int) (v4:Int) (v5:Int) (v6:Int) (v7:Int) (v8:Int) (v9:Int) (v10:Int) (v11:Int) (v12:Int) (v13:Bool) (v14:Bool) (v15:List dW) (v16:List dM) (v17:List dW):Option ((ybQ).X ⊕ ((yfr).X ⊕ (yjq).X)) :=
  bif (ltb v1 (v17.length:Int)) then
    bif (!v0) then
      bif (inb v1 v17.length) then
        bif (leb v2 ((nth v17 v1 (0,[])).1)) then
          bif (zj4 v15.length ([(v2,v3)]:List dW).length 32) then
            bif (inb v1 v17.length) then
              bif ((nth v17 v1 (0,[])).1 !=v2) then
                bif (inb v1 v17.length) then
                  bif (zj4 (v15++([(v2,v3)]:List dW)).length ([(nth v17 v1 (0,[]))]:List dW).length 32) then
                    some (.inl ((((),()),((),()),((),()),(true,()),((IntKind.i64.wrap (v1+1)),()),()),((v2,v3,()),(v4,v5,v6,(),v7,v8,v9,v10,v11,(),v12,v13,v14,()),()),(((v15++([(v2,v3)]:List dW))++([(nth v17 v1 (0,[]))]:List dW)),v16,v17,())))
                  else none
                else none
              else
                some (.inl ((((),()),((),()),((),()),(true,()),((IntKind.i64.wrap (v1+1)),()),()),((v2,v3,()),(v4,v5,v6,(),v7,v8,v9,v10,v11,(),v12,v13,v14,()),()),((v15++([(v2,v3)]:List dW)),v16,v17,())))
            else none
          else none
        else
          bif (inb v1 v17.length) then
            bif ((nth v17 v1 (0,[])).1 !=v2) then
              bif (inb v1 v17.length) then
                bif (zj4 v15.length ([(nth v17 v1 (0,[]))]:List dW).length 32) then
                  some (.inl ((((),()),((),()),((),()),(v0,()),((IntKind.i64.wrap (v1+1)),()),()),((v2,v3,()),(v4,v5,v6,(),v7,v8,v9,v10,v11,(),v12,v13,v14,()),()),((v15++([(nth v17 v1 (0,[]))]:List dW)),v16,v17,())))
                else none
              else none
            else
              some (.inl ((((),()),((),()),((),()),(v0,()),((IntKind.i64.wrap (v1+1)),()),()),((v2,v3,()),(v4,v5,v6,(),v7,v8,v9,v10,v11,(),v12,v13,v14,()),()),(v15,v16,v17,())))
          else none
      else none
    else
      bif (inb v1 v17.length) then
        bif ((nth v17 v1 (0,[])).1 !=v2) then
          bif (inb v1 v17.length) then
            bif (zj4 v15.length ([(nth v17 v1 (0,[]))]:List dW).length 32) then
              some (.inl ((((),()),((),()),((),()),(v0,()),((IntKind.i64.wrap (v1+1)),()),()),((v2,v3,()),(v4,v5,v6,(),v7,v8,v9,v10,v11,(),v12,v13,v14,()),()),((v15++([(nth v17 v1 (0,[]))]:List dW)),v16,v17,())))
            else none
          else none
        else
          some (.inl ((((),()),((),()),((),()),(v0,()),((IntKind.i64.wrap (v1+1)),()),()),((v2,v3,()),(v4,v5,v6,(),v7,v8,v9,v10,v11,(),v12,v13,v14,()),()),(v15,v16,v17,())))
      else none
  else
    some (.inr (.inl ((((),()),((),()),((),()),(v0,()),()),((v2,v3,()),(v4,v5,v6,(),v7,v8,v9,v10,v11,(),v12,v13,v14,()),()),(v15,v16,v17,()))))
def ycd (x:(ybQ).X):=ynF x.1.2.2.2.1.1 x.1.2.2.2.2.1.1 x.2.1.1.1 x.2.1.1.2.1 x.2.1.2.1.1 x.2.1.2.1.2.1 x.2.1.2.1.2.2.1 x.2.1.2.1.2.2.2.2.1 x.2.1.2.1.2.2.2.2.2.1 x.2.1.2.1.2.2.2.2.2.2.1 x.2.1.2.1.2.2.2.2.2.2.2.1 x.2.1.2.1.2.2.2.2.2.2.2.2.1 x.2.1.2.1.2.2.2.2.2.2.2.2.2.2.1 x.2.1.2.1.2.2.2.2.2.2.2.2.2.2.2.1 x.2.1.2.1.2.2.2.2.2.2.2.2.2.2.2.2.1 x.2.2.1 x.2.2.2.1 x.2.2.2.2.1
def ytb (x:(yfE).X):(ybQ).X:=((((),()),((),()),((),()),(false,()),(0,()),()),((x.2.1.1.1,x.2.1.1.2.1,()),(x.2.1.2.1.1,x.2.1.2.1.2.1,x.2.1.2.1.2.2.1,(),x.2.1.2.1.2.2.2.2.1,x.2.1.2.1.2.2.2.2.2.1,x.2.1.2.1.2.2.2.2.2.2.1,x.2.1.2.1.2.2.2.2.2.2.2.1,x.2.1.2.1.2.2.2.2.2.2.2.2.1,(),x.2.1.2.1.2.2.2.2.2.2.2.2.2.2.1,x.2.1.2.1.2.2.2.2.2.2.2.2.2.2.2.1,x.2.1.2.1.2.2.2.2.2.2.2.2.2.2.2.2.1,()),()),(x.2.2.1,x.2.2.2.1,x.2.2.2.2.1,()))
def yuX:Code:=(zdI yjZ 64 244).getD .skip
theorem yFi:zdI yjZ 64 61=some (.block 0 (.loop yuX)):=by kernel_rfl
theorem yHL (x:(ybQ).X):zg7 ⟨yn9,67,ywn⟩ 0 yuX 244 ybQ yfr yjq x=ycd x:=by kernel_rfl
def ytq (x:(yfE).X):Nat:=(fun (u0:Int) (u1:List Int) (u2:Int) (u3:Int) (u4:Int) (u5:Int) (u6:Int) (u7:Int) (u8:Int) (u9:Int) (u10:Int) (u11:Bool) (u12:Bool) (u13:List dW) (u14:List dM) (u15:List dW)=>18446744073709551616) x.2.1.1.1 x.2.1.1.2.1 x.2.1.2.1.1 x.2.1.2.1.2.1 x.2.1.2.1.2.2.1 x.2.1.2.1.2.2.2.2.1 x.2.1.2.1.2.2.2.2.2.1 x.2.1.2.1.2.2.2.2.2.2.1 x.2.1.2.1.2.2.2.2.2.2.2.1 x.2.1.2.1.2.2.2.2.2.2.2.2.1 x.2.1.2.1.2.2.2.2.2.2.2.2.2.2.1 x.2.1.2.1.2.2.2.2.2.2.2.2.2.2.2.1 x.2.1.2.1.2.2.2.2.2.2.2.2.2.2.2.2.1 x.2.2.1 x.2.2.2.1 x.2.2.2.2.1
def yon (x:(yfE).X):Option ((yfr).X ⊕ (yjq).X):=zr ycd (ytq x) (ytb x)
def ytX:Seg:=⟨yfE,yfr,yjq,yon⟩
def ywo:Nat→Option Seg:=fun q=>bif Nat.beq q 61 then some ytX else ywn q
theorem yF9:FrOk Try.prog ⟨yn9,67,ywo⟩ yjZ:=(yF8).loop (sg:=ytX) ybQ ytb (by decide) yFi ycd ytq (by decide) (fun _=>rfl) (fun x r _ h=>h) yHL
abbrev yee:List Par:= [.pt tA (.pr .fz (.pr (.pr .fz .fz) (.pr (.ow (.pr (.ow .fz) (.pr (.ow (.pr .fz .fz)) (.pr .fz (.ow .fz))))) (.pr .fz (.pr .fz (.pr .fz (.pr .fz (.pr .fz (.pr (.ow (.pr .fz .fz)) (.pr .fz (.pr .fz .fz))))))))))),.kp tW .fz]
abbrev yka:List OT:= []
def yli (a0:dA) (a1:dW):Option (ResD yka×MutD yee) :=
  zjw (yon ((((),()),((),()),((),()),((),()),((),()),()),((a1.1,a1.2,()),(a0.1,a0.2.1.1,a0.2.1.2,(),a0.2.2.2.1,a0.2.2.2.2.1,a0.2.2.2.2.2.1,a0.2.2.2.2.2.2.1,a0.2.2.2.2.2.2.2.1,(),a0.2.2.2.2.2.2.2.2.2.1,a0.2.2.2.2.2.2.2.2.2.2.1,a0.2.2.2.2.2.2.2.2.2.2.2,()),()),(([]:List dW),a0.2.2.1,a0.2.2.2.2.2.2.2.2.1,()))) (fun y0 =>
    bif (!y0.1.2.2.2.1.1) then
      bif (zj4 y0.2.2.1.length ([(y0.2.1.1.1,y0.2.1.1.2.1)]:List dW).length 32) then
        some ((),((y0.2.1.2.1.1,(y0.2.1.2.1.2.1,y0.2.1.2.1.2.2.1),y0.2.2.2.1,y0.2.1.2.1.2.2.2.2.1,y0.2.1.2.1.2.2.2.2.2.1,y0.2.1.2.1.2.2.2.2.2.2.1,y0.2.1.2.1.2.2.2.2.2.2.2.1,y0.2.1.2.1.2.2.2.2.2.2.2.2.1,(y0.2.2.1++([(y0.2.1.1.1,y0.2.1.1.2.1)]:List dW)),y0.2.1.2.1.2.2.2.2.2.2.2.2.2.2.1,y0.2.1.2.1.2.2.2.2.2.2.2.2.2.2.2.1,y0.2.1.2.1.2.2.2.2.2.2.2.2.2.2.2.2.1),()))
      else none
    else
      some ((),((y0.2.1.2.1.1,(y0.2.1.2.1.2.1,y0.2.1.2.1.2.2.1),y0.2.2.2.1,y0.2.1.2.1.2.2.2.2.1,y0.2.1.2.1.2.2.2.2.2.1,y0.2.1.2.1.2.2.2.2.2.2.1,y0.2.1.2.1.2.2.2.2.2.2.2.1,y0.2.1.2.1.2.2.2.2.2.2.2.2.1,y0.2.2.1,y0.2.1.2.1.2.2.2.2.2.2.2.2.2.2.1,y0.2.1.2.1.2.2.2.2.2.2.2.2.2.2.2.1,y0.2.1.2.1.2.2.2.2.2.2.2.2.2.2.2.2.1),()))) (fun y0 =>
    none)
theorem yL6 (x:InD yee):zjH ⟨yn9,67,ywo⟩ Try.f150.results.toList yjZ yee yka x=yli x.1 x.2.1:=by kernel_rfl
theorem yJl:ConOk Try.prog 150 ⟨yee,yka,fun x=>yli x.1 x.2.1⟩:=zkh (yF9) Try.func150 (by kernel_rfl) (by kernel_rfl) Try.ntmps150.symm (by decide) (fun x r h=>(yL6 x).trans h)
def yo0 (a0:dA) (a1:dW):dA:=ytJ a0 (yz9 a0.2.2.2.2.2.2.2.2.1 a1)
def ytH (a0:dA) (a1:dW):Bool:=decide (a0.2.2.2.2.2.2.2.2.1.length≤1000)
theorem yLi (a0:dA) (a1:dW) (hk:zi9 yee (a0,a1,())) (hq:ytH a0 a1=true):yli a0 a1=(fun n=>some ((),(n,()))) (yo0 a0 a1):=by
  have hq:=of_decide_eq_true hq
  have h1:=zkk (step:=ycd) a0.2.2.2.2.2.2.2.2.1 (0,[]) (fun i s=>yno s.1 i a1 a0 s.2) (yaX a1) (fun i s=>s.2.length≤i * 2) (fun s=> .inl (yDr s.1 a1 a0 s.2)) (fun i s hi hs=>by
    constructor
    · simp only [ycd,yno,ynF,zjI (show (i:Int) < a0.2.2.2.2.2.2.2.2.1.length by omega),cond_true,wr (show -9223372036854775808≤(i:Int)+1 by omega) (by omega),Int.natCast_add,Int.natCast_one,Int.toNat_natCast,zkO hi,zkV,zjW,yaX,zkw.2 (show (s.2.length+ [a1].length) * 32≤140737488355328 by simp only [List.length_cons,List.length_nil]; omega),
        show ∀ x:dW,zj4 s.2.length [x].length 32=true from fun x=>zkw.2 (by simp only [List.length_cons,List.length_nil]; omega),show ∀ x:dW,zj4 (s.2++ [a1]).length [x].length 32=true from fun x=>zkw.2 (by simp only [List.length_append,List.length_cons,List.length_nil]; omega)]
      cases s.1<;>cases leb a1.1 (a0.2.2.2.2.2.2.2.2.1.getD i (0,[])).1<;>cases ((a0.2.2.2.2.2.2.2.2.1.getD i (0,[])).1 !=a1.1)<;>simp
    · unfold yaX
      have: ∀ (b c:Bool) (x:dW),((bif b then s.2++ [a1] else s.2)++(bif c then [x] else [])).length≤(i+1) * 2:=fun b c x=>by
        cases b<;>cases c<;>simp<;>omega
      exact this _ _ _) (fun s hs=>by simp only [ycd,yno,ynF,zkm (Int.le_refl _),cond_false]) (false,[]) (Nat.zero_le _) 18446744073709551616 (by omega)
  have hl:((a0.2.2.2.2.2.2.2.2.1.foldl (yaX a1) (false,[])).2).length≤2000:=by
    have: ∀ (l:List dW) (s:Bool×List dW),((l.foldl (yaX a1) s).2).length≤s.2.length+l.length * 2:=by
      intro l
      induction l with
      | nil=>intro s; simp
      | cons x t ih =>
        intro s
        rw [List.foldl_cons]
        have:=ih (yaX a1 s x)
        have h2:(yaX a1 s x).2.length≤s.2.length+2:=by
          unfold yaX
          cases (!s.1&&leb a1.1 x.1)<;>cases (x.1 !=a1.1)<;>simp
        simp only [List.length_cons]; omega
    have:=this a0.2.2.2.2.2.2.2.2.1 (false,[])
    simp only [List.length_nil]at this
    omega
  unfold yli yo0 yz9
  refine (congrArg (fun z=>zjw z _ _) (show yon (yDE a1 a0 [])=_ from h1)).trans ?_
  generalize a0.2.2.2.2.2.2.2.2.1.foldl (yaX a1) (false,[])=R at hl
  simp only [zkJ,zkV]
  cases hr:R.1
  · rw [zkw.2 (show (R.2.length+ [a1].length) * 32≤140737488355328 by simp only [List.length_cons,List.length_nil]; omega)]; rfl
  · rfl
def yo2 (a0:dA) (a1:dW):Option (ResD yka×MutD yee):=bif ytH a0 a1 then (fun n=>some ((),(n,()))) (yo0 a0 a1) else none
theorem yLz (a0:dA) (a1:dW) (h:ytH a0 a1=true):yo2 a0 a1=(fun n=>some ((),(n,()))) (yo0 a0 a1):=by unfold yo2; rw [h]; rfl
def ywO:Con:=⟨yee,yka,fun x=>yo2 x.1 x.2.1⟩
theorem yLw:ConOk Try.prog 150 ywO:=(yJl).mono (fun x r hk h=>zkW h (fun hq=>yLi x.1 x.2.1 hk hq))
end
section
def yy6:Code:=(Try.f120.body).getD .skip
def yzh:Env:=zki TT [(147,yrn),(148,yrq),(149,ysQ),(150,ywO)] []
theorem yGa:FrOk Try.prog ⟨yzh,40,fun _=>none⟩ yy6:=zkp yc yd ⟨yEl,yEo,yHm,yLw,trivial⟩
def yH1:Nat→Option Seg:=fun _=>none
abbrev yef:List Par:= [.pt tA (.pr .fz (.pr (.pr .fz .fz) (.pr (.ow (.pr (.ow .fz) (.pr (.ow (.pr .fz .fz)) (.pr .fz (.ow .fz))))) (.pr .fz (.pr .fz (.pr .fz (.pr .fz (.pr .fz (.pr (.ow (.pr .fz .fz)) (.pr .fz (.pr .fz .fz))))))))))),.rd tI,.rd tI]
abbrev ykb:List OT:= [⟨false,tI,.fz⟩]
def ylj (a0:dA) (a1:Int) (a2:Int):Option (ResD ykb×MutD yef) :=
  let r1:=yfV a0.2.1 a1
  bnd (yjy a0 r1) fun r2 =>
  bif (!r2.1.2.1) then
    some ((5,()),(a0,()))
  else
    let r3:=yhl a0.2.1 a1
    bif (inb r3 r2.1.1.length) then
      bnd (yo2 a0 (r1,(r2.1.1.set (r3).toNat a2))) fun r4 =>
      some ((0,()),(r4.2.1,()))
    else none
theorem yL7 (x:InD yef):zjH ⟨yzh,40,yH1⟩ Try.f120.results.toList yy6 yef ykb x=ylj x.1 x.2.1 x.2.2.1:=by kernel_rfl
theorem yJm:ConOk Try.prog 120 ⟨yef,ykb,fun x=>ylj x.1 x.2.1 x.2.2.1⟩:=zkh (yGa) Try.func120 (by kernel_rfl) (by kernel_rfl) Try.ntmps120.symm (by decide) (fun x r h=>(yL7 x).trans h)
def setOne (a:dA) (b n:Int):Int×dA:=bif (yav a (yaK a.2.1 b)).2 then (0,ytJ a (yz9 a.2.2.2.2.2.2.2.2.1 (yaK a.2.1 b,(yav a (yaK a.2.1 b)).1.set (ynP a.2.1 b).toNat n))) else (5,a)
def yo1 (a0:dA) (a1 a2:Int):Int×dA:=setOne a0 a1 a2
def ykp (a0:dA) (a1 a2:Int):Bool:=yu a0&&(blkOk a0.2.1 a1&&decide (a0.2.2.2.2.2.2.2.2.1.length≤1000))
theorem yLj (a0:dA) (a1 a2:Int) (hk:zi9 yef (a0,a1,a2,())) (hq:ykp a0 a1 a2=true):ylj a0 a1 a2=(fun n=>some ((n.1,()),(n.2,()))) (yo1 a0 a1 a2):=by
  simp only [ykp,Bool.and_eq_true]at hq
  have hs:=yvR hq.2.1
  obtain ⟨hg,_,hi⟩:=yuI hq.2.1
  unfold ylj yo1 setOne
  simp only [yfV,yhl]
  rw [yEq a0 (yaK a0.2.1 a1) hs]
  simp only [zky,yfX]
  cases hn:(yav a0 (yaK a0.2.1 a1)).2
  · rfl
  · have hl:=yq2 hq.1 hs hn
    have hx:ynP a0.2.1 a1=a1.tmod (a0.2.1.1 - 1):=by unfold ynP; rw [hq.2.1]; rfl
    rw [zjP.2 (show 0≤ynP a0.2.1 a1∧ynP a0.2.1 a1 < (yav a0 (yaK a0.2.1 a1)).1.length by omega),yLz _ _ hq.2.2]
    rfl
def yc0 (a0:dA) (a1:Int) (a2:Int):Option (ResD ykb×MutD yef):=bif ykp a0 a1 a2 then (fun n=>some ((n.1,()),(n.2,()))) (yo1 a0 a1 a2) else none
theorem yLA (a0:dA) (a1:Int) (a2:Int) (h:ykp a0 a1 a2=true):yc0 a0 a1 a2=(fun n=>some ((n.1,()),(n.2,()))) (yo1 a0 a1 a2):=by unfold yc0; rw [h]; rfl
def ywP:Con:=⟨yef,ykb,fun x=>yc0 x.1 x.2.1 x.2.2.1⟩
theorem yLx:ConOk Try.prog 120 ywP:=(yJm).mono (fun x r hk h=>zkW h (fun hq=>yLj x.1 x.2.1 x.2.2.1 hk hq))
end
section
def yy3:Code:=(Try.f85.body).getD .skip
def yze:Env:=zki TT [(47,ycF)] []
theorem yFX:FrOk Try.prog ⟨yze,12,fun _=>none⟩ yy3:=zkp yc yd ⟨yfZ,trivial⟩
def yHY:Nat→Option Seg:=fun _=>none
abbrev yj6:List Par:= [.pt tU .fz,.rd tL]
abbrev yoB:List OT:= [⟨false,tI,.fz⟩]
def yd5 (a0:dU) (a1:List Int):Option (ResD yoB×MutD yj6) :=
  bnd (ye a0 (a1.length:Int)) fun r1 =>
  bif (inb r1.1.1 a1.length) then
    some (((nth a1 r1.1.1 0),()),(r1.2.1,()))
  else none
theorem yLZ (x:InD yj6):zjH ⟨yze,12,yHY⟩ Try.f85.results.toList yy3 yj6 yoB x=yd5 x.1 x.2.1:=by kernel_rfl
theorem yJe:ConOk Try.prog 85 ⟨yj6,yoB,fun x=>yd5 x.1 x.2.1⟩:=zkh (yFX) Try.func85 (by kernel_rfl) (by kernel_rfl) Try.ntmps85.symm (by decide) (fun x r h=>(yLZ x).trans h)
def ywJ:Con:=⟨yj6,yoB,fun x=>yd5 x.1 x.2.1⟩
theorem yLr:ConOk Try.prog 85 ywJ:=yJe
theorem yO4 (u:List Int×Int×Int) (l:List Int) (h:ycl u) (hl:l≠ []): ∃ (r:Int) (u':List Int×Int×Int),yd5 u l=some ((r,()),(u',()))∧r∈l∧ycl u':=by
  unfold yd5
  obtain ⟨r1,u1,e1,q1,d1⟩:=ydl u (l.length:Int) h
  have hp:0 < l.length:=List.length_pos_iff.2 hl
  have hr:=q1.2.1 (by omega)
  simp only [e1,zky,zjP.2 ⟨q1.1,hr⟩,cond_true]
  refine ⟨_,_,rfl,?_,d1⟩
  have:r1.toNat < l.length:=by have:=q1.1; omega
  unfold nth
  rw [List.getD_eq_getElem?_getD,List.getElem?_eq_getElem this,Option.getD_some]
  exact List.getElem_mem this
end
section
def yxY:Code:=(Try.f121.body).getD .skip
def yyo:Env:=zki TT [(85,ywJ)] []
theorem yCV:FrOk Try.prog ⟨yyo,6,fun _=>none⟩ yxY:=zkp yc yd ⟨yLr,trivial⟩
def yEW:Nat→Option Seg:=fun _=>none
abbrev yiv:List Par:= [.pt tU .fz]
abbrev ymA:List OT:= [⟨false,tI,.fz⟩]
def yU (a0:dU):Option (ResD ymA×MutD yiv) :=
  bnd (yd5 a0 ([0,1,2,7,255,256,4660,65535]:List Int)) fun r1 =>
  some ((r1.1.1,()),(r1.2.1,()))
theorem yKL (x:InD yiv):zjH ⟨yyo,6,yEW⟩ Try.f121.results.toList yxY yiv ymA x=yU x.1:=by kernel_rfl
theorem yG1:ConOk Try.prog 121 ⟨yiv,ymA,fun x=>yU x.1⟩:=zkh (yCV) Try.func121 (by kernel_rfl) (by kernel_rfl) Try.ntmps121.symm (by decide) (fun x r h=>(yKL x).trans h)
def yvb:Con:=⟨yiv,ymA,fun x=>yU x.1⟩
theorem yJz:ConOk Try.prog 121 yvb:=yG1
theorem yOD (u:List Int×Int×Int) (h:ycl u): ∃ (r:Int) (u':List Int×Int×Int),yU u=some ((r,()),(u',()))∧ya r 0 65535=true∧ycl u':=by
  unfold yU
  obtain ⟨r1,u1,e1,q1,d1⟩:=yO4 u [0,1,2,7,255,256,4660,65535] h (by simp)
  simp only [e1,zky]
  refine ⟨_,_,rfl,?_,d1⟩
  simp only [List.mem_cons,List.not_mem_nil,or_false]at q1
  exact yPV (by omega) (by omega)
end
end
end Go.Tf
