/- Functions of the program, and what they come to. -/
import Derived.Test.YtgmadfpnljibhaaGreatBuiltBentF7
namespace Go.Tf
noncomputable section
open Go.Proofs
set_option synthInstance.maxHeartbeats 400000
set_option synthInstance.maxSize 10000
set_option linter.unusedVariables false
set_option linter.unusedSimpArgs false
set_option maxRecDepth 100000
section
def yDe:Code:=(Tryz.f177.body).getD .skip
def yDL:Env:=zki TT [(121,yoj),(135,yq)] []
theorem yKx:FrOk Tryz.prog ⟨yDL,16,fun _=>none⟩ yDe:=zkp yc yd ⟨yw4,yz,trivial⟩
def yLF:Nat→Option Seg:=fun _=>none
abbrev yfk:List Par:= [.rd tG,.rd tI]
abbrev yn4:List OT:= [⟨false,tI,.fz⟩]
def yke (a0:dG) (a1:Int):Option (ResD yn4×MutD yfk) :=
  let r1:=yo a0
  let r2:=ya a1 0 (IntKind.i64.wrap (r1 - 1))
  bif (!r2) then
    some (((-1),()),())
  else
    bif ((IntKind.i64.wrap (a0.1 - 1)) !=0) then
      some (((IntKind.i64.wrap (a1.tdiv (IntKind.i64.wrap (a0.1 - 1)))),()),())
    else none
theorem yR6 (x:InD yfk):zjH ⟨yDL,16,yLF⟩ Tryz.f177.results.toList yDe yfk yn4 x=yke x.1 x.2.1:=by kernel_rfl
theorem yNh:ConOk Tryz.prog 177 ⟨yfk,yn4,fun x=>yke x.1 x.2.1⟩:=zkh (yKx) Tryz.func177 (by kernel_rfl) (by kernel_rfl) Tryz.ntmps177.symm (by decide) (fun x r h=>(yR6 x).trans h)
def yjr (a0:dG) (a1:Int):Int:=ydr a0 a1
theorem yP7 (a0:dG) (a1:Int) (hk:zi9 yfk (a0,a1,())):yke a0 a1=(fun n=>some ((n,()),())) (yjr a0 a1):=by
  unfold yke yjr ydr
  simp only [y0Q]
  cases hb:ylP a0 a1
  · rfl
  · obtain ⟨h1,h2,h3⟩:=yDS hb
    have h4:=yk.1 h1
    rw [wr (show -9223372036854775808≤a0.1 - 1 by omega) (by omega),show (a0.1 - 1 !=0)=true from bne_iff_ne.2 (by omega),wr (by omega) (by omega)]; rfl
def yzO:Con:=⟨yfk,yn4,fun x=>(fun n=>some ((n,()),())) (yjr x.1 x.2.1)⟩
theorem yQI:ConOk Tryz.prog 177 yzO:=(yNh).mono (fun x r hk h=>(yP7 x.1 x.2.1 hk).trans h)
end
section
def yE6:Code:=(Tryz.f178.body).getD .skip
def yFK:Env:=zki TT [(121,yoj),(135,yq)] []
theorem yMj:FrOk Tryz.prog ⟨yFK,16,fun _=>none⟩ yE6:=zkp yc yd ⟨yw4,yz,trivial⟩
def yNW:Nat→Option Seg:=fun _=>none
abbrev ygu:List Par:= [.rd tG,.rd tI]
abbrev yqq:List OT:= [⟨false,tI,.fz⟩]
def yl7 (a0:dG) (a1:Int):Option (ResD yqq×MutD ygu) :=
  let r1:=yo a0
  let r2:=ya a1 0 (IntKind.i64.wrap (r1 - 1))
  bif (!r2) then
    some (((-1),()),())
  else
    bif ((IntKind.i64.wrap (a0.1 - 1)) !=0) then
      some (((a1.tmod (IntKind.i64.wrap (a0.1 - 1))),()),())
    else none
theorem yVe (x:InD ygu):zjH ⟨yFK,16,yNW⟩ Tryz.f178.results.toList yE6 ygu yqq x=yl7 x.1 x.2.1:=by kernel_rfl
theorem yQo:ConOk Tryz.prog 178 ⟨ygu,yqq,fun x=>yl7 x.1 x.2.1⟩:=zkh (yMj) Tryz.func178 (by kernel_rfl) (by kernel_rfl) Tryz.ntmps178.symm (by decide) (fun x r h=>(yVe x).trans h)
def ylf (a0:dG) (a1:Int):Int:=ytY a0 a1
theorem yTk (a0:dG) (a1:Int) (hk:zi9 ygu (a0,a1,())):yl7 a0 a1=(fun n=>some ((n,()),())) (ylf a0 a1):=by
  unfold yl7 ylf ytY
  simp only [y0Q]
  cases hb:ylP a0 a1
  · rfl
  · obtain ⟨h1,h2,h3⟩:=yDS hb
    have h4:=yk.1 h1
    rw [wr (show -9223372036854775808≤a0.1 - 1 by omega) (by omega),show (a0.1 - 1 !=0)=true from bne_iff_ne.2 (by omega)]; rfl
def yBM:Con:=⟨ygu,yqq,fun x=>(fun n=>some ((n,()),())) (ylf x.1 x.2.1)⟩
theorem yUd:ConOk Tryz.prog 178 yBM:=(yQo).mono (fun x r hk h=>(yTk x.1 x.2.1 hk).trans h)
end
section
def yoV:Code:=(Tryz.f246.body).getD .skip
def yuk:Env:=zki TT [] [(4096,(.pr .fz .fz)),(28800,(.pr .fz .fz)),(41472,(.pr .fz .fz)),(49280,(.pr .fz .fz))]
theorem ySX:FrOk Tryz.prog ⟨yuk,67,fun _=>none⟩ yoV:=zkp yc yd trivial
def yFD:Nat→Option Seg:=fun _=>none
def ydf:Shape:=⟨[(0,false,[.ptr 1000000000 0]),(3,false,[.ptr 0 0]),(4,false,[.at 800000000]),(5,false,[.bool]),(6,false,[.int .i64])],[(0,[.int .i64,.fz tI]),(1000000000,[.int .i64,.int .i64,.int .i64,.at 800000001,.int .i64,.int .i64,.int .i64,.int .i64,.int .i64,.at 800000002,.int .i64,.bool,.bool])],[(800000000,tW,(.pr .fz .fz)),(800000001,tM,(.pr (.ow .fz) (.pr (.ow (.pr .fz .fz)) (.pr .fz (.ow .fz))))),(800000002,tW,(.pr .fz .fz))]⟩
def yiV:Shape:=⟨[(0,false,[.ptr 1000000000 0]),(3,false,[.ptr 0 0]),(4,false,[.at 800000000]),(5,false,[.cb false]),(6,false,[.ci .i64 0])],[(0,[.int .i64,.fz tI]),(1000000000,[.int .i64,.int .i64,.int .i64,.at 800000001,.int .i64,.int .i64,.int .i64,.int .i64,.int .i64,.at 800000002,.int .i64,.bool,.bool])],[(800000000,tW,(.pr .fz .fz)),(800000001,tM,(.pr (.ow .fz) (.pr (.ow (.pr .fz .fz)) (.pr .fz (.ow .fz))))),(800000002,tW,(.pr .fz .fz))]⟩
def yiG:Shape:=⟨[(0,false,[.ptr 1000000000 0]),(3,false,[.ptr 0 0]),(4,false,[.at 800000000]),(5,false,[.bool])],[(0,[.int .i64,.fz tI]),(1000000000,[.int .i64,.int .i64,.int .i64,.at 800000001,.int .i64,.int .i64,.int .i64,.int .i64,.int .i64,.at 800000002,.int .i64,.bool,.bool])],[(800000000,tW,(.pr .fz .fz)),(800000001,tM,(.pr (.ow .fz) (.pr (.ow (.pr .fz .fz)) (.pr .fz (.ow .fz))))),(800000002,tW,(.pr .fz .fz))]⟩
def yof:Shape:=⟨[],[],[]⟩
abbrev ytr (v0:Bool) (v1:Int) (v2:dW) (v3:dA) (v4:List dW):(ydf).X:=((((),()),((),()),((),()),(v0,()),(v1,()),()),((v2.1,v2.2,()),(v3.1,v3.2.1.1,v3.2.1.2,(),v3.2.2.2.1,v3.2.2.2.2.1,v3.2.2.2.2.2.1,v3.2.2.2.2.2.2.1,v3.2.2.2.2.2.2.2.1,(),v3.2.2.2.2.2.2.2.2.2.1,v3.2.2.2.2.2.2.2.2.2.2.1,v3.2.2.2.2.2.2.2.2.2.2.2,()),()),(v4,v3.2.2.1,v3.2.2.2.2.2.2.2.2.1,()))
abbrev yPJ (v0:dW) (v1:dA) (v2:List dW):(yiV).X:=((((),()),((),()),((),()),((),()),((),()),()),((v0.1,v0.2,()),(v1.1,v1.2.1.1,v1.2.1.2,(),v1.2.2.2.1,v1.2.2.2.2.1,v1.2.2.2.2.2.1,v1.2.2.2.2.2.2.1,v1.2.2.2.2.2.2.2.1,(),v1.2.2.2.2.2.2.2.2.2.1,v1.2.2.2.2.2.2.2.2.2.2.1,v1.2.2.2.2.2.2.2.2.2.2.2,()),()),(v2,v1.2.2.1,v1.2.2.2.2.2.2.2.2.1,()))
abbrev yPv (v0:Bool) (v1:dW) (v2:dA) (v3:List dW):(yiG).X:=((((),()),((),()),((),()),(v0,()),()),((v1.1,v1.2,()),(v2.1,v2.2.1.1,v2.2.1.2,(),v2.2.2.2.1,v2.2.2.2.2.1,v2.2.2.2.2.2.1,v2.2.2.2.2.2.2.1,v2.2.2.2.2.2.2.2.1,(),v2.2.2.2.2.2.2.2.2.2.1,v2.2.2.2.2.2.2.2.2.2.2.1,v2.2.2.2.2.2.2.2.2.2.2.2,()),()),(v3,v2.2.2.1,v2.2.2.2.2.2.2.2.2.1,()))
def ytQ (v0:Bool) (v1:Int) (v2:Int) (v3:List Int) (v4:Int) (v5:Int) (v6:Int) (v7:Int) (v8:Int) (v9:Int) (v10:Int) (v11:Int) (v12:Int) (v13:Bool) (v14:Bool) (v15:List dW) (v16:List dM) (v17:List dW):Option ((ydf).X ⊕ ((yiG).X ⊕ (yof).X)) :=
  bif (ltb v1 (v17.length:Int)) then
    bif (!v0) then
      bif (inb v1 v17.length) then
        bif (leb v2 ((nth v17 v1 (0,[])).1)) then
          bif (zj4 v15.length ([(v2,v3)]:List dW).length 32) then
            bif (inb v1 v17.length) then
              bif ((nth v17 v1 (0,[])).1 !=v2) then
                bif (inb v1 v17.length) then
                  bif (zj4 (v15++([(v2,v3)]:List dW)).length ([(nth v17 v1 (0,[]))]:List dW).length 32) then
                    some (.inl ((((),()),((),()),((),()),(true,()),((IntKind.i64.wrap (v1+1)),()),()),((v2,v3,()),(v4,v5,v6,(),v7,v8,v9,v10,v11,(),v12,v13,v14,()),()),(((v15++([(v2,v3)]:List dW))++([(nth v17 v1 (0,[]))]:List dW)),v16,v17,())))
                  else none
                else none
              else
                some (.inl ((((),()),((),()),((),()),(true,()),((IntKind.i64.wrap (v1+1)),()),()),((v2,v3,()),(v4,v5,v6,(),v7,v8,v9,v10,v11,(),v12,v13,v14,()),()),((v15++([(v2,v3)]:List dW)),v16,v17,())))
            else none
          else none
        else
          bif (inb v1 v17.length) then
            bif ((nth v17 v1 (0,[])).1 !=v2) then
              bif (inb v1 v17.length) then
                bif (zj4 v15.length ([(nth v17 v1 (0,[]))]:List dW).length 32) then
                  some (.inl ((((),()),((),()),((),()),(v0,()),((IntKind.i64.wrap (v1+1)),()),()),((v2,v3,()),(v4,v5,v6,(),v7,v8,v9,v10,v11,(),v12,v13,v14,()),()),((v15++([(nth v17 v1 (0,[]))]:List dW)),v16,v17,())))
                else none
              else none
            else
              some (.inl ((((),()),((),()),((),()),(v0,()),((IntKind.i64.wrap (v1+1)),()),()),((v2,v3,()),(v4,v5,v6,(),v7,v8,v9,v10,v11,(),v12,v13,v14,()),()),(v15,v16,v17,())))
          else none
      else none
    else
      bif (inb v1 v17.length) then
        bif ((nth v17 v1 (0,[])).1 !=v2) then
          bif (inb v1 v17.length) then
            bif (zj4 v15.length ([(nth v17 v1 (0,[]))]:List dW).length 32) then
              some (.inl ((((),()),((),()),((),()),(v0,()),((IntKind.i64.wrap (v1+1)),()),()),((v2,v3,()),(v4,v5,v6,(),v7,v8,v9,v10,v11,(),v12,v13,v14,()),()),((v15++([(nth v17 v1 (0,[]))]:List dW)),v16,v17,())))
            else none
          else none
        else
          some (.inl ((((),()),((),()),((),()),(v0,()),((IntKind.i64.wrap (v1+1)),()),()),((v2,v3,()),(v4,v5,v6,(),v7,v8,v9,v10,v11,(),v12,v13,v14,()),()),(v15,v16,v17,())))
      else none
  else
    some (.inr (.inl ((((),()),((),()),((),()),(v0,()),()),((v2,v3,()),(v4,v5,v6,(),v7,v8,v9,v10,v11,(),v12,v13,v14,()),()),(v15,v16,v17,()))))
def ydM (x:(ydf).X):=ytQ x.1.2.2.2.1.1 x.1.2.2.2.2.1.1 x.2.1.1.1 x.2.1.1.2.1 x.2.1.2.1.1 x.2.1.2.1.2.1 x.2.1.2.1.2.2.1 x.2.1.2.1.2.2.2.2.1 x.2.1.2.1.2.2.2.2.2.1 x.2.1.2.1.2.2.2.2.2.2.1 x.2.1.2.1.2.2.2.2.2.2.2.1 x.2.1.2.1.2.2.2.2.2.2.2.2.1 x.2.1.2.1.2.2.2.2.2.2.2.2.2.2.1 x.2.1.2.1.2.2.2.2.2.2.2.2.2.2.2.1 x.2.1.2.1.2.2.2.2.2.2.2.2.2.2.2.2.1 x.2.2.1 x.2.2.2.1 x.2.2.2.2.1
def yB7 (x:(yiV).X):(ydf).X:=((((),()),((),()),((),()),(false,()),(0,()),()),((x.2.1.1.1,x.2.1.1.2.1,()),(x.2.1.2.1.1,x.2.1.2.1.2.1,x.2.1.2.1.2.2.1,(),x.2.1.2.1.2.2.2.2.1,x.2.1.2.1.2.2.2.2.2.1,x.2.1.2.1.2.2.2.2.2.2.1,x.2.1.2.1.2.2.2.2.2.2.2.1,x.2.1.2.1.2.2.2.2.2.2.2.2.1,(),x.2.1.2.1.2.2.2.2.2.2.2.2.2.2.1,x.2.1.2.1.2.2.2.2.2.2.2.2.2.2.2.1,x.2.1.2.1.2.2.2.2.2.2.2.2.2.2.2.2.1,()),()),(x.2.2.1,x.2.2.2.1,x.2.2.2.2.1,()))
def yD8:Code:=(zdI yoV 64 244).getD .skip
theorem yRJ:zdI yoV 64 61=some (.block 0 (.loop yD8)):=by kernel_rfl
theorem yUA (x:(ydf).X):zg7 ⟨yuk,67,yFD⟩ 0 yD8 244 ydf yiG yof x=ydM x:=by kernel_rfl
def yCn (x:(yiV).X):Nat:=(fun (u0:Int) (u1:List Int) (u2:Int) (u3:Int) (u4:Int) (u5:Int) (u6:Int) (u7:Int) (u8:Int) (u9:Int) (u10:Int) (u11:Bool) (u12:Bool) (u13:List dW) (u14:List dM) (u15:List dW)=>18446744073709551616) x.2.1.1.1 x.2.1.1.2.1 x.2.1.2.1.1 x.2.1.2.1.2.1 x.2.1.2.1.2.2.1 x.2.1.2.1.2.2.2.2.1 x.2.1.2.1.2.2.2.2.2.1 x.2.1.2.1.2.2.2.2.2.2.1 x.2.1.2.1.2.2.2.2.2.2.2.1 x.2.1.2.1.2.2.2.2.2.2.2.2.1 x.2.1.2.1.2.2.2.2.2.2.2.2.2.2.1 x.2.1.2.1.2.2.2.2.2.2.2.2.2.2.2.1 x.2.1.2.1.2.2.2.2.2.2.2.2.2.2.2.2.1 x.2.2.1 x.2.2.2.1 x.2.2.2.2.1
def yuz (x:(yiV).X):Option ((yiG).X ⊕ (yof).X):=zr ydM (yCn x) (yB7 x)
def yCZ:Seg:=⟨yiV,yiG,yof,yuz⟩
def yFE:Nat→Option Seg:=fun q=>bif Nat.beq q 61 then some yCZ else yFD q
theorem ySY:FrOk Tryz.prog ⟨yuk,67,yFE⟩ yoV:=(ySX).loop (sg:=yCZ) ydf yB7 (by decide) yRJ ydM yCn (by decide) (fun _=>rfl) (fun x r _ h=>h) yUA
abbrev ygW:List Par:= [.pt tA (.pr .fz (.pr (.pr .fz .fz) (.pr (.ow (.pr (.ow .fz) (.pr (.ow (.pr .fz .fz)) (.pr .fz (.ow .fz))))) (.pr .fz (.pr .fz (.pr .fz (.pr .fz (.pr .fz (.pr (.ow (.pr .fz .fz)) (.pr .fz (.pr .fz .fz))))))))))),.kp tW .fz]
abbrev ypn:List OT:= []
def yqY (a0:dA) (a1:dW):Option (ResD ypn×MutD ygW) :=
  zjw (yuz ((((),()),((),()),((),()),((),()),((),()),()),((a1.1,a1.2,()),(a0.1,a0.2.1.1,a0.2.1.2,(),a0.2.2.2.1,a0.2.2.2.2.1,a0.2.2.2.2.2.1,a0.2.2.2.2.2.2.1,a0.2.2.2.2.2.2.2.1,(),a0.2.2.2.2.2.2.2.2.2.1,a0.2.2.2.2.2.2.2.2.2.2.1,a0.2.2.2.2.2.2.2.2.2.2.2,()),()),(([]:List dW),a0.2.2.1,a0.2.2.2.2.2.2.2.2.1,()))) (fun y0 =>
    bif (!y0.1.2.2.2.1.1) then
      bif (zj4 y0.2.2.1.length ([(y0.2.1.1.1,y0.2.1.1.2.1)]:List dW).length 32) then
        some ((),((y0.2.1.2.1.1,(y0.2.1.2.1.2.1,y0.2.1.2.1.2.2.1),y0.2.2.2.1,y0.2.1.2.1.2.2.2.2.1,y0.2.1.2.1.2.2.2.2.2.1,y0.2.1.2.1.2.2.2.2.2.2.1,y0.2.1.2.1.2.2.2.2.2.2.2.1,y0.2.1.2.1.2.2.2.2.2.2.2.2.1,(y0.2.2.1++([(y0.2.1.1.1,y0.2.1.1.2.1)]:List dW)),y0.2.1.2.1.2.2.2.2.2.2.2.2.2.2.1,y0.2.1.2.1.2.2.2.2.2.2.2.2.2.2.2.1,y0.2.1.2.1.2.2.2.2.2.2.2.2.2.2.2.2.1),()))
      else none
    else
      some ((),((y0.2.1.2.1.1,(y0.2.1.2.1.2.1,y0.2.1.2.1.2.2.1),y0.2.2.2.1,y0.2.1.2.1.2.2.2.2.1,y0.2.1.2.1.2.2.2.2.2.1,y0.2.1.2.1.2.2.2.2.2.2.1,y0.2.1.2.1.2.2.2.2.2.2.2.1,y0.2.1.2.1.2.2.2.2.2.2.2.2.1,y0.2.2.1,y0.2.1.2.1.2.2.2.2.2.2.2.2.2.2.1,y0.2.1.2.1.2.2.2.2.2.2.2.2.2.2.2.1,y0.2.1.2.1.2.2.2.2.2.2.2.2.2.2.2.2.1),()))) (fun y0 =>
    none)
theorem yZx (x:InD ygW):zjH ⟨yuk,67,yFE⟩ Tryz.f246.results.toList yoV ygW ypn x=yqY x.1 x.2.1:=by kernel_rfl
theorem yWy:ConOk Tryz.prog 246 ⟨ygW,ypn,fun x=>yqY x.1 x.2.1⟩:=zkh (ySY) Tryz.func246 (by kernel_rfl) (by kernel_rfl) Tryz.ntmps246.symm (by decide) (fun x r h=>(yZx x).trans h)
def yvu (a0:dA) (a1:dW):dA:=yG9 a0 (yLf a0.2.2.2.2.2.2.2.2.1 a1)
def yCJ (a0:dA) (a1:dW):Bool:=decide (a0.2.2.2.2.2.2.2.2.1.length≤1000)
theorem yYy (a0:dA) (a1:dW) (hk:zi9 ygW (a0,a1,())) (hq:yCJ a0 a1=true):yqY a0 a1=(fun n=>some ((),(n,()))) (yvu a0 a1):=by
  have hq:=of_decide_eq_true hq
  have h1:=zkk (step:=ydM) a0.2.2.2.2.2.2.2.2.1 (0,[]) (fun i s=>ytr s.1 i a1 a0 s.2) (yb1 a1) (fun i s=>s.2.length≤i * 2) (fun s=> .inl (yPv s.1 a1 a0 s.2)) (fun i s hi hs=>by
    constructor
    · simp only [ydM,ytr,ytQ,zjI (show (i:Int) < a0.2.2.2.2.2.2.2.2.1.length by omega),cond_true,wr (show -9223372036854775808≤(i:Int)+1 by omega) (by omega),Int.natCast_add,Int.natCast_one,Int.toNat_natCast,zkO hi,zkV,zjW,yb1,zkw.2 (show (s.2.length+ [a1].length) * 32≤140737488355328 by simp only [List.length_cons,List.length_nil]; omega),
        show ∀ x:dW,zj4 s.2.length [x].length 32=true from fun x=>zkw.2 (by simp only [List.length_cons,List.length_nil]; omega),show ∀ x:dW,zj4 (s.2++ [a1]).length [x].length 32=true from fun x=>zkw.2 (by simp only [List.length_append,List.length_cons,List.length_nil]; omega)]
      cases s.1<;>cases leb a1.1 (a0.2.2.2.2.2.2.2.2.1.getD i (0,[])).1<;>cases ((a0.2.2.2.2.2.2.2.2.1.getD i (0,[])).1 !=a1.1)<;>simp
    · unfold yb1
      have: ∀ (b c:Bool) (x:dW),((bif b then s.2++ [a1] else s.2)++(bif c then [x] else [])).length≤(i+1) * 2:=fun b c x=>by
        cases b<;>cases c<;>simp<;>omega
      exact this _ _ _) (fun s hs=>by simp only [ydM,ytr,ytQ,zkm (Int.le_refl _),cond_false]) (false,[]) (Nat.zero_le _) 18446744073709551616 (by omega)
  have hl:((a0.2.2.2.2.2.2.2.2.1.foldl (yb1 a1) (false,[])).2).length≤2000:=by
    have: ∀ (l:List dW) (s:Bool×List dW),((l.foldl (yb1 a1) s).2).length≤s.2.length+l.length * 2:=by
      intro l
      induction l with
      | nil=>intro s; simp
      | cons x t ih =>
        intro s
        rw [List.foldl_cons]
        have:=ih (yb1 a1 s x)
        have h2:(yb1 a1 s x).2.length≤s.2.length+2:=by
          unfold yb1
          cases (!s.1&&leb a1.1 x.1)<;>cases (x.1 !=a1.1)<;>simp
        simp only [List.length_cons]; omega
    have:=this a0.2.2.2.2.2.2.2.2.1 (false,[])
    simp only [List.length_nil]at this
    omega
  unfold yqY yvu yLf
  refine (congrArg (fun z=>zjw z _ _) (show yuz (yPJ a1 a0 [])=_ from h1)).trans ?_
  generalize a0.2.2.2.2.2.2.2.2.1.foldl (yb1 a1) (false,[])=R at hl
  simp only [zkJ,zkV]
  cases hr:R.1
  · rw [zkw.2 (show (R.2.length+ [a1].length) * 32≤140737488355328 by simp only [List.length_cons,List.length_nil]; omega)]; rfl
  · rfl
def yvw (a0:dA) (a1:dW):Option (ResD ypn×MutD ygW):=bif yCJ a0 a1 then (fun n=>some ((),(n,()))) (yvu a0 a1) else none
theorem yYR (a0:dA) (a1:dW) (h:yCJ a0 a1=true):yvw a0 a1=(fun n=>some ((),(n,()))) (yvu a0 a1):=by unfold yvw; rw [h]; rfl
def yF8:Con:=⟨ygW,ypn,fun x=>yvw x.1 x.2.1⟩
theorem yYO:ConOk Tryz.prog 246 yF8:=(yWy).mono (fun x r hk h=>zkW h (fun hq=>yYy x.1 x.2.1 hk hq))
end
section
def yJl:Code:=(Tryz.f182.body).getD .skip
def yJK:Env:=zki TT [(176,yzQ),(177,yzO),(178,yBM),(246,yF8)] []
theorem ySZ:FrOk Tryz.prog ⟨yJK,40,fun _=>none⟩ yJl:=zkp yc yd ⟨yQK,yQI,yUd,yYO,trivial⟩
def yU0:Nat→Option Seg:=fun _=>none
abbrev ygX:List Par:= [.pt tA (.pr .fz (.pr (.pr .fz .fz) (.pr (.ow (.pr (.ow .fz) (.pr (.ow (.pr .fz .fz)) (.pr .fz (.ow .fz))))) (.pr .fz (.pr .fz (.pr .fz (.pr .fz (.pr .fz (.pr (.ow (.pr .fz .fz)) (.pr .fz (.pr .fz .fz))))))))))),.rd tI,.rd tI]
abbrev ypo:List OT:= [⟨false,tI,.fz⟩]
def yqZ (a0:dA) (a1:Int) (a2:Int):Option (ResD ypo×MutD ygX) :=
  let r1:=yjr a0.2.1 a1
  bnd (yoq a0 r1) fun r2 =>
  bif (!r2.1.2.1) then
    some ((5,()),(a0,()))
  else
    let r3:=ylf a0.2.1 a1
    bif (inb r3 r2.1.1.length) then
      bnd (yvw a0 (r1,(r2.1.1.set (r3).toNat a2))) fun r4 =>
      some ((0,()),(r4.2.1,()))
    else none
theorem yZy (x:InD ygX):zjH ⟨yJK,40,yU0⟩ Tryz.f182.results.toList yJl ygX ypo x=yqZ x.1 x.2.1 x.2.2.1:=by kernel_rfl
theorem yWz:ConOk Tryz.prog 182 ⟨ygX,ypo,fun x=>yqZ x.1 x.2.1 x.2.2.1⟩:=zkh (ySZ) Tryz.func182 (by kernel_rfl) (by kernel_rfl) Tryz.ntmps182.symm (by decide) (fun x r h=>(yZy x).trans h)
def yUC (a:dA) (b n:Int):Int×dA:=bif (ycK a (ydr a.2.1 b)).2 then (0,yG9 a (yLf a.2.2.2.2.2.2.2.2.1 (ydr a.2.1 b,(ycK a (ydr a.2.1 b)).1.set (ytY a.2.1 b).toNat n))) else (5,a)
def yvv (a0:dA) (a1 a2:Int):Int×dA:=yUC a0 a1 a2
def ypR (a0:dA) (a1 a2:Int):Bool:=ym a0&&(ylP a0.2.1 a1&&decide (a0.2.2.2.2.2.2.2.2.1.length≤1000))
theorem yYz (a0:dA) (a1 a2:Int) (hk:zi9 ygX (a0,a1,a2,())) (hq:ypR a0 a1 a2=true):yqZ a0 a1 a2=(fun n=>some ((n.1,()),(n.2,()))) (yvv a0 a1 a2):=by
  simp only [ypR,Bool.and_eq_true]at hq
  have hs:=yNP hq.2.1
  obtain ⟨hg,_,hi⟩:=yDS hq.2.1
  unfold yqZ yvv yUC
  simp only [yjr,ylf]
  rw [yQL a0 (ydr a0.2.1 a1) hs]
  simp only [zky,yju]
  cases hn:(ycK a0 (ydr a0.2.1 a1)).2
  · rfl
  · have hl:=yIg hq.1 hs hn
    have hx:ytY a0.2.1 a1=a1.tmod (a0.2.1.1 - 1):=by unfold ytY; rw [hq.2.1]; rfl
    rw [zjP.2 (show 0≤ytY a0.2.1 a1∧ytY a0.2.1 a1 < (ycK a0 (ydr a0.2.1 a1)).1.length by omega),yYR _ _ hq.2.2]
    rfl
def ye6 (a0:dA) (a1:Int) (a2:Int):Option (ResD ypo×MutD ygX):=bif ypR a0 a1 a2 then (fun n=>some ((n.1,()),(n.2,()))) (yvv a0 a1 a2) else none
theorem yYS (a0:dA) (a1:Int) (a2:Int) (h:ypR a0 a1 a2=true):ye6 a0 a1 a2=(fun n=>some ((n.1,()),(n.2,()))) (yvv a0 a1 a2):=by unfold ye6; rw [h]; rfl
def yF9:Con:=⟨ygX,ypo,fun x=>ye6 x.1 x.2.1 x.2.2.1⟩
theorem yYP:ConOk Tryz.prog 182 yF9:=(yWz).mono (fun x r hk h=>zkW h (fun hq=>yYz x.1 x.2.1 x.2.2.1 hk hq))
end
section
def yFb:Code:=(Tryz.f208.body).getD .skip
def yFP:Env:=zki TT [(203,yjk),(261,yon)] []
theorem yMy:FrOk Tryz.prog ⟨yFP,17,fun _=>none⟩ yFb:=zkp yc yd ⟨yqH,yw8,trivial⟩
def yN1:Nat→Option Seg:=fun _=>none
abbrev ykP:List Par:= [.pt tA (.pr .fz (.pr (.pr .fz .fz) (.pr (.ow (.pr (.ow .fz) (.pr (.ow (.pr .fz .fz)) (.pr .fz (.ow .fz))))) (.pr .fz (.pr .fz (.pr .fz (.pr .fz (.pr .fz (.pr (.ow (.pr .fz .fz)) (.pr .fz (.pr .fz .fz)))))))))))]
abbrev yqv:List OT:= []
def ytC (a0:dA):Option (ResD yqv×MutD ykP) :=
  let r1:=ydR a0
  bif r1.2.2.2.2.2.2.2.2.2.2.1 then
    some ((),(r1,()))
  else
    let r2:=yT (r1.1,r1.2.1,r1.2.2.1,r1.2.2.2.1,r1.2.2.2.2.1,r1.2.2.2.2.2.1,r1.2.2.2.2.2.1,r1.2.2.2.2.2.2.2)
    some ((),(r2,()))
theorem yVo (x:InD ykP):zjH ⟨yFP,17,yN1⟩ Tryz.f208.results.toList yFb ykP yqv x=ytC x.1:=by kernel_rfl
theorem yQy:ConOk Tryz.prog 208 ⟨ykP,yqv,fun x=>ytC x.1⟩:=zkh (yMy) Tryz.func208 (by kernel_rfl) (by kernel_rfl) Tryz.ntmps208.symm (by decide) (fun x r h=>(yVo x).trans h)
def ycC (a0:dA):dA :=
  let r1:=ydR a0
  bif r1.2.2.2.2.2.2.2.2.2.2.1 then
    r1
  else
    let r2:=yT (r1.1,r1.2.1,r1.2.2.1,r1.2.2.2.1,r1.2.2.2.2.1,r1.2.2.2.2.2.1,r1.2.2.2.2.2.1,r1.2.2.2.2.2.2.2)
    r2
def ylS:Con:=⟨ykP,yqv,fun x=>(fun n=>some ((),(n,()))) (ycC x.1)⟩
theorem yTs (a0:dA):ytC a0=(fun n=>some ((),(n,()))) (ycC a0):=zkS (p:=fun (n:dA)=>((),(n,()))) (zkx (p:=fun (n:dA)=>((),(n,()))) rfl rfl)
theorem yvA:ConOk Tryz.prog 208 ylS:=(yQy).mono (fun x r _ h=>(yTs x.1).trans h)
theorem yy4 (a:dA):ycC a=yl a:=by
  unfold ycC yl ydR yT
  show (bif yg (yC a) then yC a else yy (ye9 (yC a)))=_
  rfl
end
section
def yJa:Code:=(Tryz.f239.body).getD .skip
def yJz:Env:=zki TT [(135,yq),(225,yhu)] []
theorem ySy:FrOk Tryz.prog ⟨yJz,22,fun _=>none⟩ yJa:=zkp yc yd ⟨yz,yos,trivial⟩
def yUP:Nat→Option Seg:=fun _=>none
abbrev ypa:List Par:= [.rd tN]
abbrev yuN:List OT:= [⟨false,tB,.fz⟩]
def yxh (a0:dN):Option (ResD yuN×MutD ypa) :=
  let r1:=ya a0.1 0 60000
  bif r1 then
    let r2:=ya a0.2.1 0 7
    bif r2 then
      let r3:=ya (a0.2.2.length:Int) 2 4
      bif r3 then
        let r4:=yQ a0.2.2
        some ((r4,()),())
      else
        some ((false,()),())
    else
      some ((false,()),())
  else
    some ((false,()),())
theorem yZf (x:InD ypa):zjH ⟨yJz,22,yUP⟩ Tryz.f239.results.toList yJa ypa yuN x=yxh x.1:=by kernel_rfl
theorem yWg:ConOk Tryz.prog 239 ⟨ypa,yuN,fun x=>yxh x.1⟩:=zkh (ySy) Tryz.func239 (by kernel_rfl) (by kernel_rfl) Tryz.ntmps239.symm (by decide) (fun x r h=>(yZf x).trans h)
def ye3 (a0:dN):Bool :=
  let r1:=ya a0.1 0 60000
  bif r1 then
    let r2:=ya a0.2.1 0 7
    bif r2 then
      let r3:=ya (a0.2.2.length:Int) 2 4
      bif r3 then
        let r4:=yQ a0.2.2
        r4
      else
        false
    else
      false
  else
    false
def yFZ:Con:=⟨ypa,yuN,fun x=>(fun n=>some ((n,()),())) (ye3 x.1)⟩
theorem yYo (a0:dN):yxh a0=(fun n=>some ((n,()),())) (ye3 a0):=zkS (p:=fun (n:Bool)=>((n,()),())) (zkx (p:=fun (n:Bool)=>((n,()),())) (zkx (p:=fun (n:Bool)=>((n,()),())) (zkx (p:=fun (n:Bool)=>((n,()),())) rfl rfl) rfl) rfl)
theorem yYF:ConOk Tryz.prog 239 yFZ:=(yWg).mono (fun x r _ h=>(yYo x.1).trans h)
abbrev y2y:dN:=(0,0,[])
def yUl (r:dN):List Int:=bif ye3 r then 21322::r.1::r.2.1::(r.2.2.length:Int)::r.2.2 else []
def y1N (l:List Int):dN:=(nth l 1 0,nth l 2 0,l.drop 4)
def y22 (l:List Int):dN×Bool:=bif leb 4 (l.length:Int)&&(nth l 0 0==21322&&(nth l 3 0==(l.length:Int) - 4&&ye3 (y1N l))) then (y1N l,true) else (y2y,false)
theorem y09 {r:dN}:ye3 r=true↔(0≤r.1∧r.1≤60000)∧(0≤r.2.1∧r.2.1≤7)∧(2≤(r.2.2.length:Int)∧(r.2.2.length:Int)≤4)∧r.2.2.all isW=true:=by
  unfold ye3
  simp only [yy5,← yrV]
  cases ya r.1 0 60000<;>cases ya r.2.1 0 7<;>cases ya (r.2.2.length:Int) 2 4<;>simp
def yyz (r:dN) (a:dA) (i:Nat):dA:=ydT a i (ym4 r.1) (yUl r)
def yjF (a:dA) (r:dN):dA:=yC ((List.range a.2.2.1.length).foldl (yyz r) a)
theorem yvR (r:dN) (a:dA) (i:Nat):(yyz r a i).2.2.1.length=a.2.2.1.length:=yqI _ _ _ _
theorem y2v (r:dN) {a:dA} (i:Nat) (h:yg a=true):yyz r a i=a:=yQM h _ _ _
theorem y1Z (a:dA) (r:dN):(yjF a r).2.2.1.length=a.2.2.1.length:=(yC1 _).trans (ypy (yvR r) _ _)
theorem yxk (a:dA) (r:dN):yD (yjF a r)=yD a:=(yt0 _).trans (yx9 (one:=yyz r) (fun _ _=>ytw _ _ _ _) _ _)
theorem yKX {one:dA→Nat→dA} {d:List dW} (hl: ∀ a i,(one a i).2.2.1.length=a.2.2.1.length) (ho: ∀ a i,yaQ d a→i < a.2.2.1.length→yaQ d (one a i)): ∀ (n:Nat) (a:dA),n≤a.2.2.1.length→yaQ d a→yaQ d ((List.range n).foldl one a)
  | 0,_,_,h=>h
  | n+1,a,hn,h=>by
    rw [List.range_succ,List.foldl_append]
    exact ho _ _ (yKX hl ho n a (by omega) h) (by rw [ypy hl]; exact hn)
theorem y2V {d:List dW} {a:dA} (r:dN) (h:yaQ d a):yaQ d (yjF a r):=y07 (yKX (yvR r) (fun _ _ h hi=>yPS h (zkO hi)) _ a (Nat.le_refl _) h)
def yLu (p N x:Int) (data:List Int) (i:Int):Int:=bif i==p then x else nth data ((i - p - 1+N).tmod N) 0
def yfq (p N s:Int) (data:List Int) (a:dA) (i:Nat):dA:=bif ydk a i s then ydT a i (ycA s) [yLu p N (yoK data) data i] else a
def ydv (a:dA) (s:Int) (data:List Int):dA:=(List.range a.2.2.1.length).foldl (yfq (yu a.2.1 s) a.2.1.1 s data) a
theorem yrQ (p N s:Int) (data:List Int) (a:dA) (i:Nat):(yfq p N s data a i).2.2.1.length=a.2.2.1.length:=by
  unfold yfq; cases ydk a i s
  · rfl
  · exact yqI _ _ _ _
theorem y2e (p N s:Int) (data:List Int) {a:dA} (i:Nat) (h:yg a=true):yfq p N s data a i=a:=by
  unfold yfq; cases ydk a i s
  · rfl
  · exact yQM h _ _ _
theorem yJY (p N s:Int) (data:List Int) (a:dA) (i:Nat):yD (yfq p N s data a i)=yD a:=by
  unfold yfq; cases ydk a i s
  · rfl
  · exact ytw _ _ _ _
theorem y2R (a:dA) (s:Int) (data:List Int):(ydv a s data).2.2.1.length=a.2.2.1.length:=ypy (yrQ _ _ _ _) _ _
theorem yJZ (a:dA) (s:Int) (data:List Int):yD (ydv a s data)=yD a:=yx9 (yJY _ _ _ _) _ _
theorem y2N {d:List dW} {a:dA} (s:Int) (data:List Int) (h:yaQ d a):yaQ d (ydv a s data):=yKX (yrQ _ _ _ _) (fun a i h hi=>by
  unfold yfq; cases ydk a i s
  · exact h
  · exact yPS h (zkO hi)) _ a (Nat.le_refl _) h
theorem y2S {N i p:Int} (h:3≤N∧N≤5) (hi:0≤i∧i < N) (hp:0≤p∧p≤N - 1) (hne:i≠p):0≤(i - p - 1+N).tmod N∧(i - p - 1+N).tmod N < N - 1:=by
  rw [Int.tmod_eq_emod_of_nonneg (by omega)]
  have:N=3∨N=4∨N=5:=by omega
  rcases this with rfl | rfl | rfl<;>omega
theorem y2K {N p x:Int} {data:List Int} (h:3≤N∧N≤5) (hp:0≤p∧p≤N - 1) (hd:(data.length:Int)=N - 1) :
    (List.range data.length).foldl (fun l (i:Nat)=>l.set ((p+1+i).tmod N).toNat (nth data i 0)) ((List.replicate N.toNat 0).set p.toNat x)=(List.range N.toNat).map (fun (i:Nat)=>yLu p N x data i):=by
  have:N=3∨N=4∨N=5:=by omega
  rcases this with rfl | rfl | rfl
  · match data,hd with
    | [a,b],_ =>
      have:p=0∨p=1∨p=2:=by omega
      rcases this with rfl | rfl | rfl<;>simp [yLu,nth,List.range_succ,List.replicate_succ]
    | [],hd=>simp at hd
    | [_],hd=>simp at hd
    | _::_::_::_,hd=>simp only [List.length_cons]at hd; omega
  · match data,hd with
    | [a,b,c],_ =>
      have:p=0∨p=1∨p=2∨p=3:=by omega
      rcases this with rfl | rfl | rfl | rfl<;>simp [yLu,nth,List.range_succ,List.replicate_succ]
    | [],hd=>simp at hd
    | [_],hd=>simp at hd
    | [_,_],hd=>simp at hd
    | _::_::_::_::_,hd=>simp only [List.length_cons]at hd; omega
  · match data,hd with
    | [a,b,c,d],_ =>
      have:p=0∨p=1∨p=2∨p=3∨p=4:=by omega
      rcases this with rfl | rfl | rfl | rfl | rfl<;>simp [yLu,nth,List.range_succ,List.replicate_succ]
    | [],hd=>simp at hd
    | [_],hd=>simp at hd
    | [_,_],hd=>simp at hd
    | [_,_,_],hd=>simp at hd
    | _::_::_::_::_::_,hd=>simp only [List.length_cons]at hd; omega
def yav (a:dA):dA:=bif leb 4 (IntKind.i64.wrap (a.2.2.2.2.2.1 - a.2.2.2.2.2.2.1)) then yl a else a
def ygd (a:dA) (s:Int) (d:List Int):Int×dA :=
  bif yg (yav a) then (6,yav a) else
  bif yg (yjF (yav a) ((yav a).2.2.2.2.2.1,s,d)) then (6,yjF (yav a) ((yav a).2.2.2.2.2.1,s,d)) else
  (bif yg (ydv (yhP (yjF (yav a) ((yav a).2.2.2.2.2.1,s,d))) s d) then 6 else 0,ydv (yhP (yjF (yav a) ((yav a).2.2.2.2.2.1,s,d))) s d)
theorem yW5 (a:dA):(yl a).2.1=a.2.1:=by
  unfold yl
  cases yg (yC a)
  · exact (yen (ylt (ye9 (yC a)))).trans (show (yC a).2.1=a.2.1 from yen (yt0 a))
  · exact yen (yt0 a)
theorem y0i (a:dA):(yav a).2.1=a.2.1:=by
  unfold yav
  cases leb 4 (IntKind.i64.wrap (a.2.2.2.2.2.1 - a.2.2.2.2.2.2.1))
  · rfl
  · exact yW5 a
theorem y20 (a:dA):(yav a).2.2.1.length=a.2.2.1.length:=by
  unfold yav
  cases leb 4 (IntKind.i64.wrap (a.2.2.2.2.2.1 - a.2.2.2.2.2.2.1))
  · rfl
  · exact yxQ a
def yLv (l:List dW) (k:Nat):List dW:=l.take k++l.drop (k+1)
def yk9 (a:dA) (s:Int):Int×dA :=
  bif ltb (yah a.2.2.2.2.2.2.2.2.1 s) 0 then (0,a) else
  bif yaD a s (nth a.2.2.2.2.2.2.2.2.1 (yah a.2.2.2.2.2.2.2.2.1 s) (0,[])).2 !=0 then (yaD a s (nth a.2.2.2.2.2.2.2.2.1 (yah a.2.2.2.2.2.2.2.2.1 s) (0,[])).2,a) else
  bif (ygd a s (nth a.2.2.2.2.2.2.2.2.1 (yah a.2.2.2.2.2.2.2.2.1 s) (0,[])).2).1==0 then
    (0,yG9 (ygd a s (nth a.2.2.2.2.2.2.2.2.1 (yah a.2.2.2.2.2.2.2.2.1 s) (0,[])).2).2 (yLv a.2.2.2.2.2.2.2.2.1 (yah a.2.2.2.2.2.2.2.2.1 s).toNat))
  else ygd a s (nth a.2.2.2.2.2.2.2.2.1 (yah a.2.2.2.2.2.2.2.2.1 s) (0,[])).2
theorem yW7 {a:dA} {s:Int} {d:List Int} (h:yaD a s d=0):ym a=true∧(d.length:Int)=a.2.1.1 - 1∧d.all isW=true∧yg a=false∧ycW a.2.1 s=true∧a.2.2.2.2.2.2.2.2.2.2.2=false∧a.2.2.2.2.2.1 < 60000∧a.2.2.2.2.2.2.2.1 < 59990:=by
  unfold yaD at h
  simp only [yW,yy5,ydj]at h
  cases ha:ym a
  · rw [ha]at h; exact absurd (show (1:Int)=0 from h) (by decide)
  have hg:=yk.1 (ybI ha)
  rw [ha,wr (show -9223372036854775808≤a.2.1.1 - 1 by omega) (by omega),wr (show -9223372036854775808≤a.2.1.2 - 1 by omega) (by omega)] at h
  cases hl:((d.length:Int) !=a.2.1.1 - 1)
  · cases hw:d.all isW
    · rw [hl,hw]at h; exact absurd (show (1:Int)=0 from h) (by decide)
    cases hd:a.2.2.2.2.2.2.2.2.2.2.1
    · cases hs:(leb 0 s&&leb s (a.2.1.2 - 1))
      · rw [hl,hw,hd,hs]at h; exact absurd (show (2:Int)=0 from h) (by decide)
      cases hb:a.2.2.2.2.2.2.2.2.2.2.2
      · cases h6:leb 60000 a.2.2.2.2.2.1
        · cases h7:leb 59990 a.2.2.2.2.2.2.2.1
          · have e6: ¬ (60000≤a.2.2.2.2.2.1):=fun g=>by rw [zk0 g]at h6; cases h6
            have e7: ¬ (59990≤a.2.2.2.2.2.2.2.1):=fun g=>by rw [zk0 g]at h7; cases h7
            exact ⟨rfl,bne_eq_false_iff_eq.1 hl,rfl,hd,by unfold ycW; rw [ybI ha,hs]; rfl,rfl,by omega,by omega⟩
          · rw [hl,hw,hd,hs,hb,h6,h7]at h; exact absurd (show (7:Int)=0 from h) (by decide)
        · rw [hl,hw,hd,hs,hb,h6]at h; exact absurd (show (7:Int)=0 from h) (by decide)
      · rw [hl,hw,hd,hs,hb]at h; exact absurd (show (5:Int)=0 from h) (by decide)
    · rw [hl,hw,hd]at h; exact absurd (show (6:Int)=0 from h) (by decide)
  · rw [hl]at h; exact absurd (show (1:Int)=0 from h) (by decide)
theorem yW6 (a:dA):(yav a).2.2.2.2.2.2.2.2.1=a.2.2.2.2.2.2.2.2.1:=by
  unfold yav
  cases leb 4 (IntKind.i64.wrap (a.2.2.2.2.2.1 - a.2.2.2.2.2.2.1))
  · rfl
  · exact yxq a
theorem y0b (a:dA):(yhP a).2.2.2.2.2.2.2.2.1=a.2.2.2.2.2.2.2.2.1:=rfl
theorem y0f (a:dA) (s:Int) (d:List Int):(ygd a s d).2.2.2.2.2.2.2.2.2.1=a.2.2.2.2.2.2.2.2.1:=by
  unfold ygd
  have h2:=(yRO (yxk (yav a) ((yav a).2.2.2.2.2.1,s,d))).trans (yW6 a)
  generalize yjF (yav a) ((yav a).2.2.2.2.2.1,s,d)=R at h2 ⊢
  have h3:=(yRO (yJZ (yhP R) s d)).trans ((y0b R).trans h2)
  generalize ydv (yhP R) s d=Q at h3 ⊢
  cases yg (yav a)
  · cases yg R
    · exact h3
    · exact h2
  · exact yW6 a
theorem y0T {l:List dW} {k:Int} (h0:0≤k) (h1:k < (l.length:Int)):(([]:List dW)++((l.drop (0:Int).toNat).take (k - 0).toNat))++((l.drop (k+1).toNat).take ((l.length:Int) - (k+1)).toNat)=yLv l k.toNat:=by
  unfold yLv
  rw [List.nil_append,show (0:Int).toNat=0 from rfl,List.drop_zero,Int.sub_zero,show (k+1).toNat=k.toNat+1 by omega,List.take_of_length_le (l:=l.drop (k.toNat+1)) (by rw [List.length_drop]; omega)]
def yOg (_:Nat) (a:dA):dA ⊕ (Int×dA):=bif (yk9 a (nth a.2.2.2.2.2.2.2.2.1 0 (0,[])).1).1 !=0 then .inr (yk9 a (nth a.2.2.2.2.2.2.2.2.1 0 (0,[])).1) else .inl (yk9 a (nth a.2.2.2.2.2.2.2.2.1 0 (0,[])).1).2
def y1l (a:dA):Int×dA:=goE yOg (fun b=>(0,b)) a.2.2.2.2.2.2.2.2.1.length 0 a
theorem y0y {e:dW} {l:List dW}:yah (e::l) e.1=0:=by
  unfold yah
  rw [yAH,show (e.1==e.1)=true from beq_self_eq_true _]; rfl
theorem y0A {a:dA} (h:0 < a.2.2.2.2.2.2.2.2.1.length) (h0:(yk9 a (nth a.2.2.2.2.2.2.2.2.1 0 (0,[])).1).1=0):(yk9 a (nth a.2.2.2.2.2.2.2.2.1 0 (0,[])).1).2.2.2.2.2.2.2.2.2.1=a.2.2.2.2.2.2.2.2.1.drop 1:=by
  unfold yk9 at h0 ⊢
  have hk:yah a.2.2.2.2.2.2.2.2.1 (nth a.2.2.2.2.2.2.2.2.1 0 (0,[])).1=0:=by
    cases hl:a.2.2.2.2.2.2.2.2.1 with
    | nil=>rw [hl]at h; exact absurd h (Nat.lt_irrefl 0)
    | cons e l=>exact y0y
  rw [hk]at h0 ⊢
  generalize (nth a.2.2.2.2.2.2.2.2.1 0 (0,[])).2=D at h0 ⊢
  generalize (nth a.2.2.2.2.2.2.2.2.1 0 (0,[])).1=s at h0 ⊢
  cases hc:(yaD a s D !=0)
  · rw [hc]at h0
    cases hr:((ygd a s D).1==0)
    · rw [hr]at h0
      exact absurd (show (ygd a s D).1=0 from h0) (beq_eq_false_iff_ne.1 hr)
    · rfl
  · rw [hc]at h0
    exact absurd (show yaD a s D=0 from h0) (bne_iff_ne.1 hc)
def yYV (g:dG) (e:dW):Prop:=(0≤e.1∧e.1≤g.2 - 1)∧(e.2.length:Int)=g.1 - 1∧e.2.all isW=true
theorem yEs {g:dG} {l:List dW}:yaY g l=true↔(∀ e∈l,yYV g e)∧l.Pairwise (fun x y=>x.1 < y.1):=by
  have bad: ∀ i,yh7 g l i=false↔yYV g (nth l i (0,[]))∧(0 < i→(nth l ((i - 1:Nat):Int) (0,[])).1 < (nth l i (0,[])).1):=by
    intro i
    unfold yh7 yYV
    simp only [Bool.or_eq_false_iff,Bool.not_eq_false',bne_eq_false_iff_eq,Bool.and_eq_true,Bool.and_eq_false_iff,decide_eq_false_iff_not,zjQ]
    constructor
    · rintro ⟨h1,h2,h3,h4⟩
      refine ⟨⟨h1,h2,h3⟩,fun h0=> ?_⟩
      rcases h4 with h4 | h4
      · exact absurd h0 h4
      · have:=mt zk0 (by rw [h4]; simp: ¬ leb (nth l i (0,[])).1 (nth l ((i - 1:Nat):Int) (0,[])).1=true)
        omega
    · rintro ⟨⟨h1,h2,h3⟩,h4⟩
      refine ⟨h1,h2,h3,?_⟩
      by_cases h0:0 < i
      · exact .inr (zkZ (by have:=h4 h0; omega))
      · exact .inl h0
  unfold yaY
  simp only [Bool.not_eq_true',List.any_eq_false,List.mem_range,Bool.not_eq_true,bad]
  constructor
  · intro h
    refine ⟨fun e he=> ?_,?_⟩
    · obtain ⟨i,hi,rfl⟩:=List.getElem_of_mem he
      have:=(h i hi).1
      rwa [zjW,zcq hi]at this
    · rw [List.pairwise_iff_getElem]
      have step: ∀ (d i:Nat) (hi:i < l.length) (hj:i+d+1 < l.length),l[i].1 < l[i+d+1].1:=by
        intro d
        induction d with
        | zero =>
          intro i hi hj
          have:=(h (i+1) hj).2 (by omega)
          rwa [Nat.add_sub_cancel,zjW,zjW,zcq hi,zcq hj]at this
        | succ d ih =>
          intro i hi hj
          have h1:=ih i hi (by omega)
          have:=(h (i+d+1+1) hj).2 (by omega)
          rw [Nat.add_sub_cancel,zjW,zjW,zcq (show i+d+1 < l.length by omega),zcq (show i+d+1+1 < l.length from hj)] at this
          exact Int.lt_trans h1 this
      intro i j hi hj hij
      have:=step (j - i - 1) i hi (by omega)
      have e:i+(j - i - 1)+1=j:=by omega
      simp only [e]at this
      exact this
  · rintro ⟨h1,h2⟩ i hi
    rw [List.pairwise_iff_getElem]at h2
    refine ⟨by rw [zjW,zcq hi]; exact h1 _ (List.getElem_mem hi),fun h0=> ?_⟩
    rw [zjW,zjW,zcq hi,zcq (show i - 1 < l.length by omega)]
    exact h2 (i - 1) i (by omega) hi (by omega)
theorem y0U {g:dG} {l:List dW} (k:Nat) (h:yaY g l=true):yaY g (yLv l k)=true:=by
  rw [yEs]at h ⊢
  have hs:(yLv l k).Sublist l:=by
    unfold yLv
    have:(l.take k++l.drop (k+1)).Sublist (l.take k++l.drop k):=List.Sublist.append_left (by rw [← List.drop_drop]; exact List.drop_sublist _ _) _
    rwa [List.take_append_drop]at this
  exact ⟨fun e he=>h.1 e (hs.subset he),h.2.sublist hs⟩
theorem yZN (e:dW): ∀ (l acc:List dW),l.foldl (yb1 e) (true,acc)=(true,acc++l.filter (fun x=>x.1 !=e.1))
  | [],acc=>by simp
  | x::t,acc=>by
    rw [List.foldl_cons]
    have:yb1 e (true,acc) x=(true,acc++(bif x.1 !=e.1 then [x] else [])):=rfl
    rw [this,yZN e t,List.filter_cons]
    cases x.1 !=e.1<;>simp
theorem y08 {e:dW} {l:List dW} (h:l.Pairwise (fun x y=>x.1 < y.1)):yLf l e=l.filter (fun x=>ltb x.1 e.1)++e::l.filter (fun x=>ltb e.1 x.1):=by
  have: ∀ (l acc:List dW),l.Pairwise (fun x y=>x.1 < y.1)→(bif (l.foldl (yb1 e) (false,acc)).1 then (l.foldl (yb1 e) (false,acc)).2 else (l.foldl (yb1 e) (false,acc)).2++ [e])=acc++(l.filter (fun x=>ltb x.1 e.1)++e::l.filter (fun x=>ltb e.1 x.1)):=by
    intro l
    induction l with
    | nil=>intro acc _; simp
    | cons x t ih =>
      intro acc h
      obtain ⟨hx,ht⟩:=List.pairwise_cons.1 h
      rw [List.foldl_cons]
      by_cases hle:e.1≤x.1
      · have h1:yb1 e (false,acc) x=(true,(acc++ [e])++(bif x.1 !=e.1 then [x] else [])):=by
          unfold yb1; rw [zk0 hle]; rfl
        have h2:t.filter (fun x=>x.1 !=e.1)=t:=List.filter_eq_self.2 (fun y hy=>bne_iff_ne.2 (by have:=hx y hy; omega))
        have h3:t.filter (fun x=>ltb x.1 e.1)= []:=List.filter_eq_nil_iff.2 (fun y hy=>by rw [zkm (by have:=hx y hy; omega)]; simp)
        have h4:t.filter (fun x=>ltb e.1 x.1)=t:=List.filter_eq_self.2 (fun y hy=>zjI (by have:=hx y hy; omega))
        rw [h1,yZN,h2,List.filter_cons,List.filter_cons,h3,h4,zkm (show e.1≤x.1 by omega)]
        by_cases he:x.1=e.1
        · rw [show (x.1 !=e.1)=false from bne_eq_false_iff_eq.2 he,zkm (show x.1≤e.1 by omega)]; simp
        · rw [show (x.1 !=e.1)=true from bne_iff_ne.2 he,zjI (show e.1 < x.1 by omega)]; simp
      · have h1:yb1 e (false,acc) x=(false,acc++ [x]):=by
          unfold yb1; rw [zkZ (show x.1 < e.1 by omega),show (x.1 !=e.1)=true from bne_iff_ne.2 (by omega)]; rfl
        rw [h1,ih _ ht,List.filter_cons,List.filter_cons,zjI (show x.1 < e.1 by omega),zkm (show x.1≤e.1 by omega)]
        simp
  have:=this l [] h
  rw [List.nil_append]at this
  exact this
theorem y0V {g:dG} {l:List dW} {e:dW} (h:yaY g l=true) (he:yYV g e):yaY g (yLf l e)=true:=by
  rw [yEs]at h ⊢
  rw [y08 h.2]
  refine ⟨fun x hx=> ?_,?_⟩
  · rcases List.mem_append.1 hx with h1 | h1
    · exact h.1 x (List.mem_filter.1 h1).1
    · rcases List.mem_cons.1 h1 with rfl | h1
      · exact he
      · exact h.1 x (List.mem_filter.1 h1).1
  · rw [List.pairwise_append,List.pairwise_cons]
    refine ⟨h.2.filter _,⟨fun y hy=>zjT.1 (List.mem_filter.1 hy).2,h.2.filter _⟩,fun x hx y hy=> ?_⟩
    have h1:=zjT.1 (List.mem_filter.1 hx).2
    rcases List.mem_cons.1 hy with rfl | hy
    · exact h1
    · exact Int.lt_trans h1 (zjT.1 (List.mem_filter.1 hy).2)
theorem yxV {g:dG} {l:List dW} (h:yaY g l=true) (hg:yf g=true):l.length≤8:=by
  rw [yEs]at h
  have hg:=yk.1 hg
  have:=yFU (l:=l.map (fun e=>e.1)) (lo:=0) (n:=g.2) (by rw [List.pairwise_map]; exact h.2) (fun x hx=>by
    obtain ⟨e,he,rfl⟩:=List.mem_map.1 hx
    have:=(h.1 e he).1; omega) (by omega)
  rw [List.length_map]at this
  omega
theorem y1x {a:dA} (r:dN) (h:ydS a):ydS (yjF a r) :=
  yyo (ylU (P:=ydS) (one:=yyz r) (yvR r) (fun _ _ h hi=>yGN h (zkO hi)) _ a (Nat.le_refl _) h)
theorem y1v {a:dA} (r:dN) (h:ygQ a):ygQ (yjF a r) :=
  yya (ylU (P:=ygQ) (one:=yyz r) (yvR r) (fun _ _ h _=>yGM h _ _ _) _ a (Nat.le_refl _) h)
theorem y01 {a:dA} (s:Int) (d:List Int) (h:ydS a):ydS (ydv a s d) :=
  ylU (P:=ydS) (one:=yfq (yu a.2.1 s) a.2.1.1 s d) (yrQ _ _ _ _) (fun b i h hi=>by
    unfold yfq
    cases ydk b i s
    · exact h
    · exact yGN h (zkO hi)) _ a (Nat.le_refl _) h
theorem y0Z {a:dA} (s:Int) (d:List Int) (h:ygQ a):ygQ (ydv a s d) :=
  ylU (P:=ygQ) (one:=yfq (yu a.2.1 s) a.2.1.1 s d) (yrQ _ _ _ _) (fun b i h hi=>by
    unfold yfq
    cases ydk b i s
    · exact h
    · exact yGM h _ _ _) _ a (Nat.le_refl _) h
theorem y2r {k:Int} {a:dA} (r:dN) (h:Wk k a):Wk k (yjF a r):=yAR (yxk _ _) (y1x r h.2.1) (y1v r h.2.2.1) h
theorem y12 {k:Int} {a:dA} (s:Int) (d:List Int) (h:Wk k a):Wk k (ydv a s d):=yAR (yJZ _ _ _) (y01 s d h.2.1) (y0Z s d h.2.2.1) h
theorem y1E {k:Int} {a:dA} (h:Wk k a) (h1:a.2.2.2.2.2.1 < 60000) (h2:a.2.2.2.2.2.1 - a.2.2.2.2.2.2.1≤3):Wk k (yhP a):=by
  obtain ⟨⟨c1,c2,c3,c4,c5,c6,c7,c8,c9,c10,c11⟩,g2,g3,g4,g5⟩:=h
  have e:IntKind.i64.wrap (a.2.2.2.2.2.1+1)=a.2.2.2.2.2.1+1:=wr (by omega) (by omega)
  refine ⟨⟨c1,c2,c3,c4,c5,c6,c7,⟨?_,?_⟩,?_,c10,c11⟩,g2,g3,g4,g5⟩
  · show a.2.2.2.2.2.2.1≤IntKind.i64.wrap (a.2.2.2.2.2.1+1); omega
  · show IntKind.i64.wrap (a.2.2.2.2.2.1+1)≤60000; omega
  · show IntKind.i64.wrap (a.2.2.2.2.2.1+1)≤a.2.2.2.2.2.2.1+4; omega
theorem yY1 {a b:dA} (h:yD a=yD b):a.2.2.2.2.2.1=b.2.2.2.2.2.1:=congrArg (fun x=>x.2.2.2.2.1) h
theorem yW8 {a b:dA} (h:yD a=yD b):a.2.2.2.2.2.2.1=b.2.2.2.2.2.2.1:=congrArg (fun x=>x.2.2.2.2.2.1) h
theorem yRM {a:dA} (h:ygQ a):yD (yl a)=yD (yez (ye9 a)):=by
  rw [yGD h,ylt]
  have:=yt0 a
  unfold yD at this ⊢
  simp only [Prod.mk.injEq]at this
  obtain ⟨h1,h2,h3,h4,h5,h6,h7,h8,h9⟩:=this
  unfold yez ye9
  simp only [h1,h2,h3,h4,h5,h7,h8,h9]
theorem y2o {k:Int} {a:dA} (h:Wk k a) (hk:k+1≤60000):Wk (k+1) (yav a)∧(yav a).2.2.2.2.2.1=a.2.2.2.2.2.1∧(yav a).2.2.2.2.2.1 - (yav a).2.2.2.2.2.2.1≤3:=by
  have c:=h.1
  unfold yBR at c
  unfold yav
  rw [wr (by omega) (by omega)]
  cases h4:leb 4 (a.2.2.2.2.2.1 - a.2.2.2.2.2.2.1)
  · refine ⟨yab h (by omega),rfl,?_⟩
    have: ¬ (4≤a.2.2.2.2.2.1 - a.2.2.2.2.2.2.1):=fun g=>by rw [zk0 g]at h4; cases h4
    show a.2.2.2.2.2.1 - a.2.2.2.2.2.2.1≤3; omega
  · have e1:(yl a).2.2.2.2.2.1=a.2.2.2.2.2.1:=(yY1 (yRM h.2.2.1)).trans rfl
    have e2:(yl a).2.2.2.2.2.2.1=a.2.2.2.2.2.1:=(yW8 (yRM h.2.2.1)).trans rfl
    rw [cond_true]
    exact ⟨yZY h hk,e1,by omega⟩
theorem y1H {k:Int} {a:dA} (s:Int) (d:List Int) (h:Wk k a) (hs:a.2.2.2.2.2.1 < 60000) (hk:k+1≤60000):Wk (k+1) (ygd a s d).2∧(ygd a s d).1=0:=by
  obtain ⟨h1,h2,h3⟩:=y2o h hk
  have h4:=y2r ((yav a).2.2.2.2.2.1,s,d) h1
  have e1:=yY1 (yxk (yav a) ((yav a).2.2.2.2.2.1,s,d))
  have e2:=yW8 (yxk (yav a) ((yav a).2.2.2.2.2.1,s,d))
  unfold ygd
  generalize yjF (yav a) ((yav a).2.2.2.2.2.1,s,d)=R at h4 e1 e2 ⊢
  have h5:=y12 s d (y1E h4 (by omega) (by omega))
  generalize ydv (yhP R) s d=Q at h5 ⊢
  rw [h1.2.2.1.1,h4.2.2.1.1,h5.2.2.1.1]
  exact ⟨h5,rfl⟩
theorem yNQ {k:Int} {a:dA} {l:List dW} (h:Wk k a) (hd:yaY a.2.1 l=true):Wk k (yG9 a l):=by
  obtain ⟨⟨c1,c2,c3,c4,c5,c6,c7,c8,c9,c10,c11⟩,g2,g3,g4,g5⟩:=h
  exact ⟨⟨c1,c2,hd,c4,c5,c6,c7,c8,c9,c10,c11⟩,g2,g3,g4,g5⟩
theorem y1h (a:dA) (s:Int) (d:List Int):(ygd a s d).2.2.1=a.2.1:=by
  unfold ygd
  have h2:=(yen (yxk (yav a) ((yav a).2.2.2.2.2.1,s,d))).trans (y0i a)
  generalize yjF (yav a) ((yav a).2.2.2.2.2.1,s,d)=R at h2 ⊢
  have h3:=(yen (yJZ (yhP R) s d)).trans (show (yhP R).2.1=a.2.1 from h2)
  generalize ydv (yhP R) s d=Q at h3 ⊢
  cases yg (yav a)
  · cases yg R
    · exact h3
    · exact h2
  · exact y0i a
theorem yZZ {k:Int} {a:dA} (s:Int) (h:Wk k a) (hk:k+1≤60000):Wk (k+1) (yk9 a s).2:=by
  unfold yk9
  cases ltb (yah a.2.2.2.2.2.2.2.2.1 s) 0
  · generalize hD:(nth a.2.2.2.2.2.2.2.2.1 (yah a.2.2.2.2.2.2.2.2.1 s) (0,[])).2=D
    cases hc:(yaD a s D !=0)
    · have hz:=yW7 (bne_eq_false_iff_eq.1 hc)
      obtain ⟨h1,h2⟩:=y1H s D h hz.2.2.2.2.2.2.1 hk
      rw [show ((ygd a s D).1==0)=true from beq_iff_eq.2 h2]
      exact yNQ h1 (by rw [y1h]; exact y0U _ h.1.2.2.1)
    · exact yab h (by omega)
  · exact yab h (by omega)
theorem yZ0 {k:Int}: ∀ (n i:Nat) (j:Int) (a:dA),Wk j a→j+n≤k→k≤60000→Wk k (goE yOg (fun b=>((0:Int),b)) n i a).2
  | 0,_,j,a,h,h1,_=>yab h (by omega)
  | n+1,i,j,a,h,h1,h2=>by
    have h3:=yZZ (nth a.2.2.2.2.2.2.2.2.1 0 (0,[])).1 h (by omega)
    unfold goE yOg
    cases ((yk9 a (nth a.2.2.2.2.2.2.2.2.1 0 (0,[])).1).1 !=0)
    · exact yZ0 n (i+1) (j+1) _ h3 (by omega) h2
    · exact yab h3 (by omega)
theorem y2n {k:Int} {a:dA} (h:Wk k a) (hk:k+8≤60000):Wk (k+8) (y1l a).2:=by
  have:=yxV h.1.2.2.1 h.1.1
  exact yZ0 _ 0 k a h (by omega) hk
theorem y2s {k:Int} {a:dA} {b n:Int} (h:Wk k a) (hb:ylP a.2.1 b=true) (hn:isW n=true):Wk k (yUC a b n).2:=by
  unfold yUC
  cases hs:(ycK a (ydr a.2.1 b)).2
  · exact h
  · have hstr:=yNP hb
    have hl:=yIg (yZX h) hstr hs
    refine yNQ h (y0V h.1.2.2.1 ⟨(ye8.1 hstr).2,by rw [List.length_set]; exact hl,y0u ?_ hn⟩)
    unfold ycK
    cases hk:leb 0 (yah a.2.2.2.2.2.2.2.2.1 (ydr a.2.1 b))
    · rw [h.2.2.2.1]; exact y0R _ _
    · have:=(ywX (d:=((0:Int),([]:List Int))) hk).1
      exact yw2 (P:=fun e:dW=>e.2.all isW=true) this (fun e he=>((yEs.1 h.1.2.2.1).1 e he).2.2)
end
end
end Go.Tf
