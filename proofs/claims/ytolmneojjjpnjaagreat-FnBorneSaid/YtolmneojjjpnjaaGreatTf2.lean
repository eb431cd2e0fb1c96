/- A symbolic executor over the model, proved sound: part 2. -/
import Derived.Laws.MakeOwn
import Derived.Laws.AppendOwn
import Derived.Deep.LoopGhost
import Derived.Test.YtolmneojjjpnjaaGreatTf1
namespace Go.Tf
set_option linter.unusedVariables false
set_option linter.unusedSimpArgs false
section
variable {P:Program} {E:Env} {n0:Nat} {M:Nat→Prop} {h0:Home} {s:St} {g:Gh} {X:List Nat} {a:Act} {w:World}
theorem zgo (r:Rel n0 M h0 s g X a w) {o:Oper} {x:Operand} (ho:o.op= .move x∨o.op= .assign x):Good P n0 M h0 (s.putO o.dst (ze s x)) o a w:=by
 obtain⟨hv,hu⟩:=zf r x;refine Good.pure r ?_ hv hu;rcases ho with ho | ho<;>simp[execOp,ho]
theorem zhY {sh:Sh} {h:za} {b:Bool} {x y:V} {u v:Value} (hx:VRel sh g h x u) (hy:VRel sh g h y v) :
  VRel sh g h (zfT b x y) (if b then u else v)∧ ∀k∈(zfT b x y).refs,k∈x.refs∨k∈y.refs:=by
 have dflt:VRel sh g h (bif b then x else y) (if b then u else v)∧ ∀k∈(bif b then x else y).refs,k∈x.refs∨k∈y.refs:=by
  cases b with
  | true=>exact⟨hx,fun k hk=> .inl hk⟩
  | false=>exact⟨hy,fun k hk=> .inr hk⟩
 unfold zfT;split
 ·rename_i p q
  simp only[VRel,CRel]at hx hy;subst hx hy;refine⟨?_,by simp[V.refs,C.refs]⟩;cases b<;>rfl
 ·exact dflt
theorem zjb (r:Rel n0 M h0 s g X a w) {o:Oper} {c x y:Operand} {b:Bool} (ho:o.op= .pick c x y) (hc:ze s c= .c (.bool b)) :
  Good P n0 M h0 (s.putO o.dst (zfT b (ze s x) (ze s y))) o a w:=by
 obtain⟨hv,_⟩:=zf r c;rw[hc]at hv;obtain⟨hx,hux⟩:=zf r x;obtain⟨hy,huy⟩:=zf r y;obtain⟨h1,h2⟩:=zhY (b:=b) hx hy;refine Good.pure r ?_ h1 (fun k hk=>(h2 k hk).elim (hux k) (huy k));simp only[VRel,CRel]at hv;simp[execOp,ho,hv,asBool]
theorem zgC (r:Rel n0 M h0 s g X a w) {o:Oper} {x:Operand} {k off:Nat} {cs:List C} (ho:o.op= .nilCheck x) (hx:ze s x= .c (.ptr k off)) (hb:s.sh.boxes k=some cs) :
  Good P n0 M h0 (s.putO o.dst (.c (.ptr k off))) o a w:=by
 obtain⟨hv,hu⟩:=zf r x;rw[hx]at hv hu;refine Good.pure r ?_ hv hu;have:=hv.2 cs hb;simp[execOp,ho,this]
theorem ziA (r:Rel n0 M h0 s g X a w) (hE:EnvOk P E) {o:Oper} {t:TypeId} {x:Operand} {f:Nat} {i:TI} {n:Nat} {ty:Ty} {fo fs:Nat} {fa:Bool} {c c':C} (ho:o.op= .fieldAddr t x f)
  (ht:E.TT t=some i) (hst:i.ty= .st n ty) (hf:i.fs[f]? =some (fo,fs,fa)) (hx:ze s x= .c c) (e:zat fo c=some c')
  (hptr: ∃b off,a.eval x= .pointer (some ⟨b,off,none⟩)):Good P n0 M h0 (s.putO o.dst (.c c')) o a w:=by
 obtain⟨hv,hu⟩:=zf r x;rw[hx]at hv hu;obtain⟨hr,hc⟩:=zg6 e hv;obtain⟨b,off,hp'⟩:=hptr;refine Good.pure r (v:= .pointer (some ⟨b,off+fo,none⟩)) ?_ (hc b off hp') (fun k hk=>hu k (hr k hk));have hti:=hE.ti t i ht;have hu:=hti.und;unfold zbZ at hu;rw[hst]at hu;obtain⟨fds,h1,h2⟩:=hu
 have h3:fds.toList[f]?.map (zaT P)=some (fo,some fs,fa):=by
  rw[← List.getElem?_map,h2,List.getElem?_map,hf]; rfl
 cases hfd:fds[f]? with
 | none=>rw[Array.getElem?_toList,hfd]at h3; simp at h3
 | some fd =>
  rw[Array.getElem?_toList,hfd]at h3;simp only[Option.map_some,Option.some.injEq,zaT,Prod.mk.injEq]at h3;obtain⟨h4,h5,h6⟩:=h3;obtain⟨h5,-⟩:=zde h5;have hne:fs≠0:=hti.fsz _ (List.mem_of_getElem? hf);cases hi:P.info? fd.type with
  | none=>rw[hi]at h5; simp at h5
  | some inf =>
   rw[hi]at h5; simp at h5;simp only[execOp,ho];refine zj _ ?_;simp[Instr.fieldAt,zG h1,hfd,hp',Instr.sureAddr,fieldPlace,zZ hi,h5,hne,zaO,h4]
theorem zjy (r:Rel n0 M h0 s g X a w) {c:C} {v:Value} (hv:CRel s.sh g (hp w) c v) (hc:match c with
   | .ptr k _=>(s.sh.boxes k).isSome=true
   | .ef _ _ _ _=>True
   | .eo k ver _ _ _ _=> ∃e,s.sh.regs k=some e∧e.ver=ver
   | _=>False): ∃b off,v= .pointer (some ⟨b,off,none⟩):=by
 cases c with
 | ptr k off =>
  simp only at hc;cases hb:s.sh.boxes k with
  | none=>rw[hb]at hc; simp at hc
  | some cs=>exact⟨_,_,hv.2 cs hb⟩
 | ef z t x off=>obtain⟨_,b,o,vs,h,_⟩:=hv; exact⟨_,_,h⟩
 | eo k ver p q i off =>
  obtain⟨e,he,hver⟩:=hc;obtain⟨b,o,len,cap,_,_,_,h⟩:=(hv.2 e he).2 hver;exact⟨_,_,h⟩
 | _=>exact hc.elim
def zaW (sh:Sh):C→Bool
 | .ptr k _=>(sh.boxes k).isSome
 | .ef _ _ _ _=>true
 | .eo k ver _ _ _ _=>match sh.regs k with
  | some e=>Nat.beq e.ver ver
  | none=>false
 | _=>false
theorem zga (r:Rel n0 M h0 s g X a w) {c:C} {v:Value} (hv:CRel s.sh g (hp w) c v) (hc:zaW s.sh c=true): ∃b off,v= .pointer (some ⟨b,off,none⟩):=by
 refine zjy r hv ?_;cases c with
 | ptr k off=>exact hc
 | ef _ _ _ _=>trivial
 | eo k ver p q i off =>
  simp only[zaW]at hc;split at hc
  ·rename_i e he; exact⟨e,he,Nat.eq_of_beq_eq_true hc⟩
  ·simp at hc
 | _=>simp[zaW]at hc
theorem ziB (r:Rel n0 M h0 s g X a w) (hE:EnvOk P E) {o:Oper} {t:TypeId} {x y:Operand} {i:TI} {u:Ty} {c c':C} {k:IntKind} {n:Int} (ho:o.op= .indexAddr t x y)
  (ht:E.TT t=some i) (hsl:i.ty= .sl u) (hx:ze s x= .c c) (hy:ze s y= .c (.int k n)) (e:zac s.sh c n=some (true,u.size,c')) :
  Good P n0 M h0 (s.putO o.dst (.c c')) o a w:=by
 obtain⟨hv,hu⟩:=zf r x;rw[hx]at hv hu;obtain⟨hvy,_⟩:=zf r y;rw[hy]at hvy;have hyv:a.eval y= .int k n:=hvy.1;obtain⟨b,off,len,cap,hval,h1,h2,hc,hrefs⟩:=zhc r e hv hu;refine Good.pure r ?_ hc hrefs;have hti:=hE.ti t i ht;have hun:=hti.und;unfold zbZ at hun;rw[hsl]at hun;obtain⟨hun,hel⟩:=hun;obtain⟨f,hf,_,hsz,_⟩:=zbV hel;simp only[execOp,ho];refine zj _ ?_;have hle:n<(len:Int):=h2;simp[Instr.indexAt,hyv,asIntOf,zG hun,hval,h1,hle,zZ hf,hsz,zaO]
theorem zjI (r:Rel n0 M h0 s g X a w) (hE:EnvOk P E) {o:Oper} {t:TypeId} {x:Operand} {i:TI} {u:Ty} {c:C} {n:Int} (ho:o.op= .call { callee:= .builtin .len,args:= #[x],argTypes:= #[t] })
  (ht:E.TT t=some i) (hsl:i.ty= .sl u) (hx:ze s x= .c c) (e:zai s.sh c=some n) (hfit:zdO .i64 n=true) :
  Good P n0 M h0 (s.putO o.dst (.c (.int .i64 n))) o a w:=by
 obtain⟨hv,hu⟩:=zf r x;rw[hx]at hv hu;obtain⟨ad,len,cap,hval,hn⟩:=ziF r e hv;refine Good.pure r (v:= .int .i64 n) ?_ ⟨rfl,zh9 hfit⟩ (by simp[V.refs,C.refs]);have hti:=hE.ti t i ht;have hun:=hti.und;unfold zbZ at hun;rw[hsl]at hun;simp[execOp,ho,resolve,invoke,builtin,Builtin.len_,zG hun.1,hval,goInt,hn]
theorem zhI {op:BinOp} {k:IntKind} {x y z:Int} (e:zgF op k x y=some z):(Op.intBits op k x y).run P w= .ok (.int k z) w∧zaw k z:=by
 unfold zgF at e;split at e<;>simp at e<;>subst e<;>exact⟨by simp[Op.intBits],za5 _ _⟩
theorem zjA {op:BinOp} {t:TypeId} {j k:IntKind} {x y:Int} {c:C} (e:zii op (.int k x) (.int j y)=some (true,c)) (hx:zaw k x) (hy:zaw j y) :
  ∃v,(binOp op t (.int k x) (.int j y)).run P w= .ok v w∧(∀sh g h,CRel sh g h c v)∧c.refs= []:=by
 unfold zii at e;simp only at e;split at e
 ·simp only[Option.some.injEq,Prod.mk.injEq,decide_eq_true_eq]at e
  obtain⟨h1,rfl⟩:=e;exact⟨.int k _,by simp[binOp,Op.shift,Int.not_lt.2 h1],fun _ _ _=>⟨rfl,za5 _ _⟩,rfl⟩
 ·simp only[Option.some.injEq,Prod.mk.injEq,decide_eq_true_eq]at e
  obtain⟨h1,rfl⟩:=e;exact⟨.int k _,by simp[binOp,Op.shift,Int.not_lt.2 h1],fun _ _ _=>⟨rfl,zi4 _ hx⟩,rfl⟩
 ·rename_i hn1 hn2
  split at e
  ·rename_i pl hk
   obtain⟨rfl⟩:=pl;split at e
   ·simp at e; subst e; exact⟨.int k _,by simp[binOp,Op.intArith],fun _ _ _=>⟨rfl,za5 _ _⟩,rfl⟩
   ·simp at e; subst e; exact⟨.int k _,by simp[binOp,Op.intArith],fun _ _ _=>⟨rfl,za5 _ _⟩,rfl⟩
   ·simp at e; subst e; exact⟨.int k _,by simp[binOp,Op.intArith],fun _ _ _=>⟨rfl,za5 _ _⟩,rfl⟩
   ·simp only[Option.some.injEq,Prod.mk.injEq,bne_iff_ne]at e
    obtain⟨h1,rfl⟩:=e;exact⟨.int k _,by simp[binOp,Op.intDiv,h1],fun _ _ _=>⟨rfl,za5 _ _⟩,rfl⟩
   ·simp only[Option.some.injEq,Prod.mk.injEq,bne_iff_ne]at e
    obtain⟨h1,rfl⟩:=e;exact⟨.int k _,by simp[binOp,Op.intDiv,h1],fun _ _ _=>⟨rfl,zi5 hx hy⟩,rfl⟩
   ·simp at e; subst e; exact⟨.bool _,by simp[binOp,Op.intCmp],fun _ _ _=>rfl,rfl⟩
   ·simp at e; subst e; exact⟨.bool _,by simp[binOp,Op.intCmp],fun _ _ _=>rfl,rfl⟩
   ·simp at e; subst e; exact⟨.bool _,by simp[binOp,Op.intCmp],fun _ _ _=>rfl,rfl⟩
   ·simp at e; subst e; exact⟨.bool _,by simp[binOp,Op.intCmp],fun _ _ _=>rfl,rfl⟩
   ·simp at e; subst e; exact⟨.bool _,by simp[binOp,Op.intCmp],fun _ _ _=>rfl,rfl⟩
   ·simp at e; subst e; exact⟨.bool _,by simp[binOp,Op.intCmp],fun _ _ _=>rfl,rfl⟩
   ·split at e
    ·rename_i z hz
     simp at e; subst e;obtain⟨h1,h2⟩:=zhI (P:=P) (w:=w) hz;refine⟨.int k z,?_,fun _ _ _=>⟨rfl,h2⟩,rfl⟩;unfold zgF at hz;split at hz<;>simp at hz
     all_goals (simp only[binOp]; simpa using h1)
    ·simp at e
  ·simp at e
end
def eqT:List Ty→List C→List C→Option Bool
 | [],[],[]=>some true
 | .int _::ts,.int k x::cs,.int j y::ds=>match zb5 k j,eqT ts cs ds with
  | some _,some b=>some ((x==y)&&b)
  | _,_=>none
 | .bool::ts,.bool x::cs,.bool y::ds=>match eqT ts cs ds with
  | some b=>some ((x==y)&&b)
  | none=>none
 | _,_,_=>none
section
variable {P:Program} {E:Env} {n0:Nat} {M:Nat→Prop} {h0:Home} {s:St} {g:Gh} {X:List Nat} {a:Act} {w:World}
theorem zhR (r:Rel n0 M h0 s g X a w) {o:Oper} {op:BinOp} {t u:TypeId} {x y:Operand} {k j:IntKind} {m n:Int} {c:C} (ho:o.op= .binOp op t x y u)
  (hx:ze s x= .c (.int k m)) (hy:ze s y= .c (.int j n)) (e:zii op (.int k m) (.int j n)=some (true,c)):Good P n0 M h0 (s.putO o.dst (.c c)) o a w:=by
 obtain⟨hvx,_⟩:=zf r x;obtain⟨hvy,_⟩:=zf r y;rw[hx]at hvx;rw[hy]at hvy;obtain⟨hvx,fx⟩:=hvx;obtain⟨hvy,fy⟩:=hvy;obtain⟨v,hrun,hc,hr⟩:=zjA (P:=P) (w:=w) (t:=t) e fx fy;refine Good.pure r ?_ (hc _ _ _) (by simp[V.refs,hr]);simp only[execOp,ho,hvx,hvy];refine zj _ ?_;simp[eqGuard_at_int,hrun]
theorem zg5 (n:Nat) {t:TypeId} {x y:Bool} (h:P.underlying t=some .bool):(Op.equalIn (n+1) t (.bool x) (.bool y)).run P w= .ok (x==y) w:=by
 simp[Op.equalIn,zG h]
theorem zer (r:Rel n0 M h0 s g X a w) (hE:EnvOk P E) {o:Oper} {op:BinOp} {t u:TypeId} {x y:Operand} {i:TI} {b d:Bool} (ho:o.op= .binOp op t x y u)
  (ht:E.TT t=some i) (hb:i.ty= .bool) (hx:ze s x= .c (.bool b)) (hy:ze s y= .c (.bool d)) :
  (op= .eql→Good P n0 M h0 (s.putO o.dst (.c (.bool (b==d)))) o a w)∧(op= .neq→Good P n0 M h0 (s.putO o.dst (.c (.bool (!(b==d))))) o a w):=by
 obtain⟨hvx,_⟩:=zf r x;obtain⟨hvy,_⟩:=zf r y;rw[hx]at hvx;rw[hy]at hvy;simp only[VRel,CRel]at hvx hvy;have hun:=(hE.ti t i ht).und;unfold zbZ at hun;rw[hb]at hun;have heq:(Op.equal t (.bool b) (.bool d)).run P w= .ok (b==d) w:=zg5 9999 hun;constructor
 ·rintro rfl
  refine Good.pure r (v:= .bool (b==d)) ?_ rfl (by simp[V.refs,C.refs]);simp only[execOp,ho,hvx,hvy];refine zj _ ?_;simp[eqGuard_at_bool,binOp,heq]
 ·rintro rfl
  refine Good.pure r (v:= .bool (!(b==d))) ?_ rfl (by simp[V.refs,C.refs]);simp only[execOp,ho,hvx,hvy];refine zj _ ?_;simp[eqGuard_at_bool,binOp,heq]
theorem zd1 {t:TypeId} {d:TypeDesc} {cs:Array Value} {off:Nat} {v:Value} (h:P.underlying t=some d) (hd:d= .bool∨ ∃k,d= .int k) (hv:cs[off]? =some v):(part t cs off).run P w= .ok v w:=by
 have hagg:(isAgg t).run P w= .ok false w:=by
  rcases hd with rfl | ⟨k,rfl⟩<;>simp[isAgg,zG h]
 simp[part,hagg,hv]
theorem zch {sh:Sh} {h:za} (d:Nat) {xs ys:Array Value}: ∀{ts:List Ty} {cs ds:List C} {us vs:List Value} {fs:List Field} {n:Nat} {b:Bool},eqT ts cs ds=some b→CRels sh g h cs us→CRels sh g h ds vs →
    (∀i,us[i]? =xs[n+i]? ∨us.length≤i)→(∀i,vs[i]? =ys[n+i]? ∨vs.length≤i)→fs.map (fun f=>(f.offset,f.name== "_",P.underlying f.type))=zcw ts n →
    (Op.eqFields (d+1) xs ys fs).run P w= .ok b w
  | [],[],[],_,_,fs,n,b,e,_,_,_,_,hf=>by
    simp[eqT]at e; subst e;have:fs= []:=by simpa [zcw]using hf
    subst this;simp[Op.eqFields]
  | .int k0::ts,.int k x::cs,.int j y::ds,u::us,v::vs,f::fs,n,b,e,hc,hd,hx,hy,hf=>by
    simp only[eqT]at e;split at e
    · rename_i pl b1 _ hb
      simp at e;have:=pl.down;subst this;simp only[List.map_cons,zcw,List.cons.injEq,Prod.mk.injEq]at hf;obtain⟨⟨h1,h2,h3⟩,hf⟩:=hf;obtain⟨⟨rfl,_⟩,hc⟩:=hc;obtain⟨⟨rfl,_⟩,hd⟩:=hd
      have hxn:xs[f.offset]? =some (Value.int k x):=by
        rcases hx 0 with h | h
        · rw[h1]; simpa using h.symm
        · simp at h
      have hyn:ys[f.offset]? =some (Value.int k y):=by
        rcases hy 0 with h | h
        · rw[h1]; simpa using h.symm
        · simp at h
      have rec':=zch d (fs:=fs) (n:=n+1) hb hc hd (fun i=>by
        rcases hx (i+1)with h | h
        · left; rw[show n+1+i=n+(i+1)by omega,← h]; simp
        · right; simpa using h) (fun i=>by
        rcases hy (i+1)with h | h
        · left; rw[show n+1+i=n+(i+1)by omega,← h]; simp
        · right; simpa using h) hf
      have hne:f.name≠ "_" :=by simpa using h2
      have h3':P.underlying f.type=some (.int k0):=h3;rw[Op.eqFields,if_pos hne];simp only[Sem.run_bind,zd1 h3' (.inr ⟨k0,rfl⟩) hxn,zd1 h3' (.inr ⟨k0,rfl⟩) hyn,Result.andThen_ok,run_equalIn_int w d f.type k k0 x y h3'];cases hxy:(x==y)with
      | true=>simp[rec',← e,hxy]
      | false=>simp[← e,hxy]
    · simp at e
  | .bool::ts,.bool x::cs,.bool y::ds,u::us,v::vs,f::fs,n,b,e,hc,hd,hx,hy,hf=>by
    simp only[eqT]at e;split at e
    · rename_i b1 hb
      simp at e;simp only[List.map_cons,zcw,List.cons.injEq,Prod.mk.injEq]at hf;obtain⟨⟨h1,h2,h3⟩,hf⟩:=hf;obtain⟨hc0,hc⟩:=hc;obtain⟨hd0,hd⟩:=hd;simp only[CRel]at hc0 hd0;subst hc0 hd0
      have hxn:xs[f.offset]? =some (Value.bool x):=by
        rcases hx 0 with h | h
        · rw[h1]; simpa using h.symm
        · simp at h
      have hyn:ys[f.offset]? =some (Value.bool y):=by
        rcases hy 0 with h | h
        · rw[h1]; simpa using h.symm
        · simp at h
      have rec':=zch d (fs:=fs) (n:=n+1) hb hc hd (fun i=>by
        rcases hx (i+1)with h | h
        · left; rw[show n+1+i=n+(i+1)by omega,← h]; simp
        · right; simpa using h) (fun i=>by
        rcases hy (i+1)with h | h
        · left; rw[show n+1+i=n+(i+1)by omega,← h]; simp
        · right; simpa using h) hf
      have hne:f.name≠ "_" :=by simpa using h2
      have h3':P.underlying f.type=some .bool:=h3;rw[Op.eqFields,if_pos hne];simp only[Sem.run_bind,zd1 h3' (.inl rfl) hxn,zd1 h3' (.inl rfl) hyn,Result.andThen_ok,run_equalIn_bool' w d f.type x y h3'];cases hxy:(x==y)with
      | true=>simp[rec',← e,hxy]
      | false=>simp[← e,hxy]
    · simp at e
  | .int _::_,.int _ _::_,.int _ _::_,_::_,_::_,[],_,_,_,_,_,_,_,hf=>by simp[zcw]at hf
  | .bool::_,.bool _::_,.bool _::_,_::_,_::_,[],_,_,_,_,_,_,_,hf=>by simp[zcw]at hf
theorem ze5 (r:Rel n0 M h0 s g X a w) (hE:EnvOk P E) {o:Oper} {op:BinOp} {t u:TypeId} {x y:Operand} {i:TI} {cs ds:List C} {b:Bool} (ho:o.op= .binOp op t x y u)
  (ht:E.TT t=some i) (hb:i.eqs=true) (hx:ze s x= .agg cs) (hy:ze s y= .agg ds) (e:eqT i.ty.leaves cs ds=some b) :
  (op= .eql→Good P n0 M h0 (s.putO o.dst (.c (.bool b))) o a w)∧(op= .neq→Good P n0 M h0 (s.putO o.dst (.c (.bool (!b)))) o a w):=by
 obtain⟨hvx,_⟩:=zf r x;obtain⟨hvy,_⟩:=zf r y;rw[hx]at hvx;rw[hy]at hvy;obtain⟨us,hvx,hcx⟩:=hvx;obtain⟨vs,hvy,hcy⟩:=hvy;obtain⟨h1,h2,h3,h4⟩:=(hE.ti t i ht).eq hb
 have heq:(Op.equalIn 10000 t (.agg us.toArray) (.agg vs.toArray)).run P w= .ok b w:=by
  rw[show(10000:Nat)=9999+1 from rfl,run_equalIn_struct w 9999 t _ _ h1 h2];exact zch 9998 e hcx hcy (fun i=> .inl (by simp)) (fun i=> .inl (by simp)) h4
 constructor
 ·rintro rfl
  refine Good.pure r (v:= .bool b) ?_ rfl (by simp[V.refs,C.refs]);simp only[execOp,ho,hvx,hvy];refine zj _ ?_;simp only[Sem.run_bind,run_eqGuard_agg w .eql t x y _ _ h3,Result.andThen_ok,run_eql_struct,heq]
 ·rintro rfl
  refine Good.pure r (v:= .bool (!b)) ?_ rfl (by simp[V.refs,C.refs]);simp only[execOp,ho,hvx,hvy];refine zj _ ?_;simp only[Sem.run_bind,run_eqGuard_agg w .neq t x y _ _ h3,Result.andThen_ok,run_neq_struct,heq]
theorem zjL (r:Rel n0 M h0 s g X a w) {o:Oper} {t:TypeId} {x:Operand} {b:Bool} (ho:o.op= .unOp .not t x) (hx:ze s x= .c (.bool b)) :
  Good P n0 M h0 (s.putO o.dst (.c (.bool (!b)))) o a w:=by
 obtain⟨hvx,_⟩:=zf r x;rw[hx]at hvx;simp only[VRel,CRel]at hvx;refine Good.pure r (v:= .bool (!b)) ?_ rfl (by simp[V.refs,C.refs]);simp only[execOp,ho,hvx];refine zj _ ?_;simp[Op.unary]
theorem zjK (r:Rel n0 M h0 s g X a w) {o:Oper} {t:TypeId} {x:Operand} {k:IntKind} {n:Int} (ho:o.op= .unOp .neg t x) (hx:ze s x= .c (.int k n)) :
  Good P n0 M h0 (s.putO o.dst (.c (.int k (k.wrap (0-n))))) o a w:=by
 obtain⟨hvx,_⟩:=zf r x;rw[hx]at hvx;obtain⟨hvx,_⟩:=hvx;refine Good.pure r (v:= .int k (k.wrap (0-n))) ?_ ⟨rfl,za5 _ _⟩ (by simp[V.refs,C.refs]);simp only[execOp,ho,hvx];refine zj _ ?_;simp[Op.unary,Op.intArith]
theorem zha (r:Rel n0 M h0 s g X a w) (hE:EnvOk P E) {o:Oper} {t u:TypeId} {x:Operand} {it iu:TI} {k j j':IntKind} {n:Int} (ho:o.op= .convert t u x)
  (ht:E.TT t=some it) (hk:it.ty= .int k) (hu:E.TT u=some iu) (hj:iu.ty= .int j) (hx:ze s x= .c (.int j' n)) :
  Good P n0 M h0 (s.putO o.dst (.c (.int j (j.wrap n)))) o a w:=by
 obtain⟨hvx,_⟩:=zf r x;rw[hx]at hvx;obtain⟨hvx,_⟩:=hvx;have h1:=(hE.ti t it ht).und;have h2:=(hE.ti u iu hu).und;unfold zbZ at h1 h2;rw[hk]at h1;rw[hj]at h2;refine Good.pure r (v:= .int j (j.wrap n)) ?_ ⟨rfl,za5 _ _⟩ (by simp[V.refs,C.refs]);simp only[execOp,ho,hvx];refine zj _ ?_;simp[convert,zG h1,zG h2,Conv.intToInt]
theorem VRel1s.get {sh:Sh} {h:za}: ∀{ps:List (Bool×List C)} {vs:List Value},VRel1s sh g h ps vs→ ∀{j:Nat} {p:Bool×List C},ps[j]? =some p→ ∃v,vs[j]? =some v∧VRel1 sh g h p v
 | _::_,v::_,e,0,p,hp=>by simp at hp; subst hp; exact⟨v,rfl,e.1⟩
 | _::ps,_::vs,e,j+1,p,hp=>by simpa using VRel1s.get e.2 (j:=j) (by simpa using hp)
theorem zhb (r:Rel n0 M h0 s g X a w) {o:Oper} {x:Operand} {j:Nat} {ps:List (Bool×List C)} {ag:Bool} {cs:List C} (ho:o.op= .extract x j)
  (hx:ze s x= .tup ps) (hj:ps[j]? =some (ag,cs)):Good P n0 M h0 (s.putO o.dst (zv ag cs)) o a w:=by
 obtain⟨hvx,hu⟩:=zf r x;rw[hx]at hvx hu;obtain⟨vs,hval,hvs⟩:=hvx;obtain⟨v,hv,h1⟩:=VRel1s.get hvs hj
 have hrel:VRel s.sh g (hp w) (zv ag cs) v∧ ∀k∈(zv ag cs).refs,∃c∈cs,k∈c.refs:=by
  cases ag with
  | true =>
   obtain⟨us,rfl,h2⟩:=h1;exact⟨⟨us,rfl,h2⟩,fun k hk=>by simpa [zv,V.refs,List.mem_flatMap]using hk⟩
  | false =>
   match cs,h1 with
   | [c],h1=>exact⟨h1,fun k hk=>⟨c,by simp,hk⟩⟩
   | [],h1=>exact h1.elim
   | _::_::_,h1=>exact h1.elim
 refine Good.pure r ?_ hrel.1 (fun k hk=> ?_)
 ·simp only[execOp,ho]
  refine zj _ ?_;simp[Instr.extract,hval,hv]
 ·obtain⟨c,hc,hk⟩:=hrel.2 k hk
  exact hu k (List.mem_flatMap.2 ⟨_,List.mem_of_getElem? hj,List.mem_flatMap.2 ⟨c,hc,hk⟩⟩)
theorem zgv {P:Program} {w:World} {t:TypeId} {d:TypeDesc} (h:P.underlying t=some d):(isAgg t).run P w= .ok (zhe P t) w:=by
 unfold isAgg zhe;rw[h];cases d<;>simp[zG h]
theorem zja (r:Rel n0 M h0 s g X a w) (hE:EnvOk P E) {o:Oper} {t:TypeId} {x:Operand} {f:Nat} {i:TI} {n:Nat} {ty:Ty} {fo fs:Nat} {fa:Bool} {cs:List C} (ho:o.op= .field t x f)
  (ht:E.TT t=some i) (hst:i.ty= .st n ty) (hf:i.fs[f]? =some (fo,fs,fa)) (hx:ze s x= .agg cs) (hl:fo+fs≤cs.length) (hag:fa=false→fs=1) :
  Good P n0 M h0 (s.putO o.dst (zv fa ((cs.drop fo).take fs))) o a w:=by
 obtain⟨hvx,hu⟩:=zf r x;rw[hx]at hvx hu;obtain⟨vs,hval,hvs⟩:=hvx;have hlen:=hvs.len;have hsub:=(hvs.drop fo).take fs;have hti:=hE.ti t i ht;have hun:=hti.und;unfold zbZ at hun;rw[hst]at hun;obtain⟨fds,h1,h2⟩:=hun
 have h3:fds.toList[f]?.map (zaT P)=some (fo,some fs,fa):=by
  rw[← List.getElem?_map,h2,List.getElem?_map,hf]; rfl
 cases hfd:fds[f]? with
 | none=>rw[Array.getElem?_toList,hfd]at h3; simp at h3
 | some fd =>
  rw[Array.getElem?_toList,hfd]at h3;simp only[Option.map_some,Option.some.injEq,zaT,Prod.mk.injEq]at h3;obtain⟨h4,h5,h6⟩:=h3;obtain⟨h5,d,hd⟩:=zde h5;cases hi:P.info? fd.type with
  | none=>rw[hi]at h5; simp at h5
  | some inf =>
   rw[hi]at h5; simp at h5
   have hrefs: ∀k∈(zv fa ((cs.drop fo).take fs)).refs,k∈(V.agg cs).refs:=by
    intro k hk
    have: ∃c∈(cs.drop fo).take fs,k∈c.refs:=by
     cases fa with
     | true=>simpa [zv,V.refs,List.mem_flatMap]using hk
     | false =>
      generalize hcs:(cs.drop fo).take fs=l at hk
      match l with
      | [c]=>exact⟨c,by simp,hk⟩
      | []=>simp[zv,V.refs]at hk
      | _::_::_=>simp[zv,V.refs]at hk
    obtain⟨c,hc,hk⟩:=this;simp only[V.refs,List.mem_flatMap];exact⟨c,List.mem_of_mem_drop (List.mem_of_mem_take hc),hk⟩
   cases fa with
   | true =>
    refine Good.pure r (v:= .agg ((vs.drop fo).take fs).toArray) ?_ ⟨_,rfl,hsub⟩ (fun k hk=>hu k (hrefs k hk));simp only[execOp,ho];refine zj _ ?_;simp[Instr.field,zG h1,hfd,hval,asAgg,part,zgv hd,h6,zZ hi,h5,h4,List.extract_toArray,List.extract_eq_take_drop]
   | false =>
    obtain rfl:=hag rfl;have hlt:fo<vs.length:=by omega
    have e1:(vs.drop fo).take 1= [vs[fo]]:=by rw[List.drop_eq_getElem_cons hlt,List.take_succ_cons,List.take_zero]
    have hlc:fo<cs.length:=by omega
    have e2:(cs.drop fo).take 1= [cs[fo]]:=by rw[List.drop_eq_getElem_cons hlc,List.take_succ_cons,List.take_zero]
    rw[e1,e2]at hsub;rw[e2]at hrefs ⊢;refine Good.pure r (v:=vs[fo]) ?_ hsub.1 (fun k hk=>hu k (hrefs k hk));simp only[execOp,ho];refine zj _ ?_;simp[Instr.field,zG h1,hfd,hval,asAgg,part,zgv hd,h6,h4,hlt]
theorem ze6 (r:Rel n0 M h0 s g X a w) {o:Oper} {x y:Operand} {ts:Array TypeId} {k:IntKind} {m n:Int} {b:Builtin} (ho:o.op= .call { callee:= .builtin b,args:= #[x,y],argTypes:=ts })
  (hx:ze s x= .c (.int k m)) (hy:ze s y= .c (.int k n)) :
  (b= .max→Good P n0 M h0 (s.putO o.dst (.c (.int k (if n>m then n else m)))) o a w)∧(b= .min→Good P n0 M h0 (s.putO o.dst (.c (.int k (if n<m then n else m)))) o a w):=by
 obtain⟨hvx,_⟩:=zf r x;obtain⟨hvy,_⟩:=zf r y;rw[hx]at hvx;rw[hy]at hvy;obtain⟨hvx,fx⟩:=hvx;obtain⟨hvy,fy⟩:=hvy;constructor
 ·rintro rfl
  refine Good.pure r (v:= .int k (if n>m then n else m)) ?_ ⟨rfl,by split<;>assumption⟩ (by simp[V.refs,C.refs]);simp[execOp,ho,resolve,invoke,builtin,Builtin.max_,hvx,hvy,Builtin.max2]
 ·rintro rfl
  refine Good.pure r (v:= .int k (if n<m then n else m)) ?_ ⟨rfl,by split<;>assumption⟩ (by simp[V.refs,C.refs]);simp[execOp,ho,resolve,invoke,builtin,Builtin.min_,hvx,hvy,Builtin.min2]
def zcx:List V→Option (List (Nat×Nat))
 | []=>some []
 | .c (.ptr k off)::vs=>match zcx vs with
  | some ps=>some ((k,off)::ps)
  | none=>none
 | _=>none
theorem zi8 (r:Rel n0 M h0 s g X a w) {o:Oper} {f:FuncId} {cap:Array Operand} {ps:List (Nat×Nat)} (ho:o.op= .makeFunc (.func f) #[] cap)
  (hx:zcx (cap.toList.map (ze s))=some ps):Good P n0 M h0 (s.putO o.dst (.c (.fn f ps))) o a w:=by
 have key: ∀(l:List Operand) (ps:List (Nat×Nat)),zcx (l.map (ze s))=some ps→ps.length=l.length ∧
   (∀(j k off:Nat),ps[j]? =some (k,off)→s.used k=true∧ ∀c,s.sh.boxes k=some c→(l.map a.eval)[j]? =some (Value.pointer (some ⟨g.bx k,off,none⟩))):=by
  intro l
  induction l with
  | nil=>intro ps h; simp[zcx]at h; subst h; simp
  | cons x l ih =>
   intro ps h;simp only[List.map_cons]at h;cases hx:ze s x with
   | c cc =>
    rw[hx]at h;cases cc with
    | ptr k off =>
     simp only[zcx]at h;split at h
     ·rename_i qs hq
      simp at h; subst h;obtain⟨h1,h2⟩:=ih qs hq;obtain⟨hv,hu⟩:=zf r x;rw[hx]at hv hu;refine⟨by simp[h1],fun j k' off' hj=> ?_⟩;cases j with
      | zero =>
       simp at hj; obtain⟨rfl,rfl⟩:=hj;exact⟨hu k (by simp[V.refs,C.refs]),fun c hc=>by simpa using hv.2 c hc⟩
      | succ j=>simpa using h2 j k' off' (by simpa using hj)
     ·simp at h
    | _=>simp[zcx]at h
   | _=>rw[hx]at h; simp[zcx]at h
 obtain⟨h1,h2⟩:=key _ _ hx;refine Good.pure r (v:= .func (.func f) #[] (cap.map a.eval)) ?_ ⟨trivial,cap.toList.map a.eval,by rw[← Array.toList_map],by simp[h1],fun j k off hj c hc=>(h2 j k off hj).2 c hc⟩ ?_
 ·simp[execOp,ho,Instr.makeFunc]
 ·intro k hk
  simp only[V.refs,C.refs,List.mem_map]at hk;obtain⟨⟨k',off⟩,hm,rfl⟩:=hk;obtain⟨j,hj⟩:=List.getElem?_of_mem hm;exact(h2 j k' off hj).1
end
theorem zcf {h:za} {b:Nat}: ∀{m o n:Nat} {us vs:List Value},zh h b o m=some us→zh h b (o+m) n=some vs→zh h b o (m+n)=some (us++vs)
 | 0,o,n,us,vs,h1,h2=>by simp[zh]at h1; subst h1; simpa using h2
 | m+1,o,n,us,vs,h1,h2=>by
  simp only[zh]at h1;split at h1
  ·rename_i v r e1 e2
   simp at h1; subst h1;have:=zcf e2 (n:=n) (vs:=vs) (by rw[← h2]; congr 1; omega);rw[show m+1+n=(m+n)+1 by omega];simp[zh,e1,this]
  ·simp at h1
theorem za7 {h:za} {b:Nat} {c:Array Value} {T:TypeId} {fr:Nat×Nat} (hb:h b=some (.cells c T fr)) {o n:Nat} (hn:o+n≤c.size) :
  zh h b o n=some ((c.toList.drop o).take n):=by
 have hl:((c.toList.drop o).take n).length=n:=by simp; omega
 have:=zap (h:=h) (b:=b) ((c.toList.drop o).take n) o (fun j hj=>by
  rw[hl]at hj;unfold zL; rw[hb]
  simp[List.getElem?_take,hj])
 rw[hl]at this; exact this
structure Elems (h:za) (Z:Nat→Prop) (t:Ty) (a:Ann) (l:List t.D) (vs:List Value) (fps:List (List Nat)):Prop where
 len:vs.length=l.length*t.size
 fl:fps.length=l.length
 el: ∀i x,l[i]? =some x→ ∃f,fps[i]? =some f∧Own h Z t a x ((vs.drop (i*t.size)).take t.size) f
theorem Elems.nil {h:za} {Z:Nat→Prop} {t:Ty} {a:Ann}:Elems h Z t a [] [] []:=⟨by simp,rfl,fun i x hx=>by simp at hx⟩
theorem Elems.append {h:za} {Z:Nat→Prop} {t:Ty} {a:Ann} {l1 l2:List t.D} {v1 v2:List Value} {f1 f2:List (List Nat)} (e1:Elems h Z t a l1 v1 f1) (e2:Elems h Z t a l2 v2 f2) :
  Elems h Z t a (l1++l2) (v1++v2) (f1++f2):=by
 refine⟨by simp[e1.len,e2.len,Nat.add_mul],by simp[e1.fl,e2.fl],fun i x hx=> ?_⟩;by_cases hi:i<l1.length
 ·rw[List.getElem?_append_left hi]at hx
  obtain⟨f,h1,h2⟩:=e1.el i x hx;refine⟨f,by rw[List.getElem?_append_left (by rw[e1.fl]; exact hi)]; exact h1,?_⟩
  have hle:i*t.size+t.size≤v1.length:=by
   rw[e1.len];have:=Nat.mul_le_mul_right t.size (show i+1≤l1.length by omega);rw[Nat.add_mul]at this; omega
  have:((v1++v2).drop (i*t.size)).take t.size=(v1.drop (i*t.size)).take t.size:=by
   rw[List.drop_append_of_le_length (by omega),List.take_append_of_le_length (by simp; omega)]
  rw[this]; exact h2
 ·rw[List.getElem?_append_right (by omega)]at hx
  obtain⟨f,h1,h2⟩:=e2.el _ x hx;refine⟨f,by rw[List.getElem?_append_right (by rw[e1.fl]; omega),e1.fl]; exact h1,?_⟩
  have:(v1++v2).drop (i*t.size)=v2.drop ((i-l1.length)*t.size):=by
   rw[List.drop_append,List.drop_eq_nil_of_le (by rw[e1.len]; exact Nat.mul_le_mul_right _ (by omega)),List.nil_append,e1.len,Nat.sub_mul]
  rw[this]; exact h2
theorem Elems.keep {h h':za} {Z Z':Nat→Prop} {t:Ty} {a:Ann} {l:List t.D} {vs:List Value} {fps:List (List Nat)} (hk: ∀b,Z b→h' b=h b) (hz: ∀b,Z b→Z' b)
  (hf: ∀b∈fps.flatten,h' b=h b) (e:Elems h Z t a l vs fps):Elems h' Z' t a l vs fps :=
 ⟨e.len,e.fl,fun i x hx=>by
  obtain⟨f,h1,h2⟩:=e.el i x hx
  exact⟨f,h1,Own.keep hk hz (fun b hb=>hf b (zT h1 hb)) h2⟩⟩
theorem Elems.own {h:za} {Z:Nat→Prop} {t:Ty} {a:Ann} {l:List t.D} {vs:List Value} {fps:List (List Nat)} (e:Elems h Z t a l vs fps) {b o cap:Nat} {c:Array Value} {T:TypeId}
  (hb:h b=some (.cells c T (0,0))) (hc:zh h b o (l.length*t.size)=some vs) (hcap:o+cap*t.size≤c.size) (hl:l.length≤cap) (hbnd:l.length*t.bytes≤2^47) :
  Own h Z (.sl t) (.ow a) l [.slice (some ⟨b,o,none⟩) l.length cap] (b::fps.flatten):=by
 refine⟨_,cap,rfl,hbnd,hl,.inr ⟨b,o,c,T,fps,rfl,hb,hcap,rfl,e.fl,fun i x hx=> ?_⟩⟩;obtain⟨f,h1,h2⟩:=e.el i x hx;refine⟨_,f,h1,?_,h2⟩;have hi:=(List.getElem?_eq_some_iff.1 hx).1;refine zaS hc ?_;have:=Nat.mul_le_mul_right t.size (show i+1≤l.length by omega);rw[Nat.add_mul]at this; omega
theorem Own.elems {h:za} {Z:Nat→Prop} {t:Ty} {a:Ann} {l:List t.D} {v:Value} {fp:List Nat} (e:Own h Z (.sl t) (.ow a) l [v] fp) :
  ∃hd cap,v= .slice hd l.length cap∧l.length*t.bytes≤2^47∧l.length≤cap ∧
   ((l= []∧hd=none∧cap=0∧fp= [])∨ ∃b o c T vs fps,hd=some ⟨b,o,none⟩∧h b=some (.cells c T (0,0))∧o+cap*t.size≤c.size∧fp=b::List.flatten fps ∧
    zh h b o (l.length*t.size)=some vs∧Elems h Z t a l vs fps):=by
 obtain⟨hd,cap,hv,hb,hc,e⟩:=e;simp at hv;refine⟨hd,cap,hv,hb,hc,e.imp id ?_⟩
 rintro⟨b,o,c,T,fps,rfl,hB,hcap,rfl,hlen,e⟩
 have hfit:o+l.length*t.size≤c.size:=by
  have:=Nat.mul_le_mul_right t.size hc;omega
 have hcs:=za7 hB hfit;refine⟨b,o,c,T,_,fps,rfl,hB,hcap,rfl,hcs,by simp; omega,hlen,fun i x hx=> ?_⟩;obtain⟨vs,f,h1,h2,h3⟩:=e i x hx;refine⟨f,h1,?_⟩;have hi:=(List.getElem?_eq_some_iff.1 hx).1
 have hle:i*t.size+t.size≤l.length*t.size:=by
  have:=Nat.mul_le_mul_right t.size (show i+1≤l.length by omega);rw[Nat.add_mul]at this; omega
 have:=zaS hcs hle;rw[h2]at this;simp only[Option.some.injEq]at this;rw[← this]; exact h3
def zC:List Ann→Bool
 | []=>true
 | .ow _::_=>false
 | _::as=>zC as
theorem zfc {a b:List Ann} (h:zC (a++b)=true):zC a=true∧zC b=true:=by
 induction a with
 | nil=>exact⟨rfl,h⟩
 | cons x a ih=>cases x<;>simp_all [zC]
theorem zeF {h:za} {Z:Nat→Prop}: ∀{t:Ty} {a:Ann} {x:t.D} {cs:List Value},zC (a.flat t)=true→Rd h Z t x cs→Own h Z t a x cs []
 | .int _,a,_,_,_,e=>⟨e,rfl⟩
 | .bool,a,_,_,_,e=>⟨e,rfl⟩
 | .sl t,.fz,_,_,_,e=>⟨e,rfl⟩
 | .sl t,.pr _ _,_,_,_,e=>⟨e,rfl⟩
 | .sl t,.ow _,_,_,hn,e=>by simp[Ann.flat,zC]at hn
 | .pr t u,a,x,cs,hn,e=>by
  obtain⟨c1,c2,rfl,h1,h2⟩:=e;simp only[Ann.flat]at hn;obtain⟨n1,n2⟩:=zfc hn;exact⟨c1,c2,[],[],rfl,rfl,zeF n1 h1,zeF n2 h2⟩
 | .st _ t,a,x,cs,hn,e=>zeF (t:=t) (a:=a) (by cases a<;>exact hn) e
theorem Rd.elems {h:za} {Z:Nat→Prop} {t:Ty} {a:Ann} {l:List t.D} {v:Value} (hn:zC (a.flat t)=true) (e:Rd h Z (.sl t) l [v]) :
  ∃hd cap vs,v= .slice hd l.length cap∧l.length*t.bytes≤2^47∧l.length≤cap∧(l= []∨ ∃b o,hd=some ⟨b,o,none⟩∧Z b∧zh h b o (l.length*t.size)=some vs) ∧
   Elems h Z t a l vs (List.replicate l.length []):=by
 obtain⟨hd,cap,hv,hb,hc,e⟩:=e;simp at hv;rcases e with rfl | ⟨b,o,rfl,hZ,e⟩
 ·exact⟨hd,cap,[],hv,hb,hc,.inl rfl,Elems.nil⟩
 ·have all: ∀n,n≤l.length→ ∃vs,zh h b o (n*t.size)=some vs∧ ∀i x,i<n→l[i]? =some x→Rd h Z t x ((vs.drop (i*t.size)).take t.size):=by
   intro n
   induction n with
   | zero=>intro _; exact⟨[],by simp[zh],fun i x hi=>by omega⟩
   | succ n ih =>
    intro hn;obtain⟨vs,h1,h2⟩:=ih (by omega);obtain⟨us,h3,h4⟩:=e n l[n] (by simp);have hvl:=zaA h1;have hul:=zaA h3;refine⟨vs++us,by rw[Nat.add_mul,Nat.one_mul]; exact zcf h1 h3,fun i x hi hx=> ?_⟩;by_cases hin:i<n
    ·have hle:i*t.size+t.size≤vs.length:=by
      rw[hvl];have:=Nat.mul_le_mul_right t.size (show i+1≤n by omega);rw[Nat.add_mul]at this; omega
     rw[List.drop_append_of_le_length (by omega),List.take_append_of_le_length (by simp; omega)];exact h2 i x hin hx
    ·have:i=n:=by omega
     subst this;rw[List.drop_append,List.drop_eq_nil_of_le (by omega),List.nil_append,hvl,Nat.sub_self,List.drop_zero,List.take_of_length_le (by omega)];rw[List.getElem?_eq_getElem (by omega)]at hx;simp at hx; subst hx; exact h4
  obtain⟨vs,h1,h2⟩:=all l.length (Nat.le_refl _);refine⟨_,cap,vs,hv,hb,hc,.inr ⟨b,o,rfl,hZ,h1⟩,zaA h1,by simp,fun i x hx=>⟨[],?_,?_⟩⟩
  ·have hi:=(List.getElem?_eq_some_iff.1 hx).1
   simp[List.getElem?_replicate,hi]
  ·exact zeF hn (h2 i x (List.getElem?_eq_some_iff.1 hx).1 hx)
theorem zhs {h:za} {Z:Nat→Prop}: ∀{ds:List LD} {vs:List Value},RdLs h Z ds vs→ ∀v∈vs,zR v
 | [],[],_,v,hv=>by simp at hv
 | d::ds,u::vs,e,v,hv=>by
  rcases List.mem_cons.1 hv with rfl | hv
  ·cases d with
   | int k n=>obtain⟨e1,_⟩:=e.1; simp at e1; rw[e1]; trivial
   | bool b=>have e1:=e.1; simp only[RdL,Rd]at e1; simp at e1; rw[e1]; trivial
   | sl t l=>exact zca e.1
  ·exact zhs e.2 v hv
theorem Own.isCells {h:za} {Z:Nat→Prop} {t:Ty} {a:Ann} {x:t.D} {cs:List Value} {fp:List Nat} (e:Own h Z t a x cs fp): ∀v∈cs,zR v :=zhs (zbw.1 (Own.rd (Z':=fun b=>Z b∨b∈fp) (fun _ h=> .inl h) (fun _ h=> .inr h) e))
theorem Elems.isCells {h:za} {Z:Nat→Prop} {t:Ty} {a:Ann} {l:List t.D} {vs:List Value} {fps:List (List Nat)} (e:Elems h Z t a l vs fps) (hs:0<t.size): ∀v∈vs,zR v:=by
 intro v hv;obtain⟨j,hj⟩:=List.getElem?_of_mem hv;have hjl:=(List.getElem?_eq_some_iff.1 hj).1;rw[e.len]at hjl;have hi:j / t.size<l.length:=Nat.div_lt_of_lt_mul (by rw[Nat.mul_comm]; exact hjl);obtain⟨f,_,ho⟩:=e.el (j / t.size) l[j / t.size] (by simp[hi]);refine Own.isCells ho v ?_;refine List.mem_of_getElem? (i:=j % t.size) ?_;rw[List.getElem?_take,if_pos (Nat.mod_lt _ hs),List.getElem?_drop];rw[← hj]; congr 1;rw[Nat.mul_comm]; exact Nat.div_add_mod j t.size
section
variable {P:Program} {E:Env} {n0:Nat} {M:Nat→Prop} {h0:Home} {s:St} {g:Gh} {X:List Nat} {a:Act} {w:World}
theorem Rel.modExt (r:Rel n0 M h0 s g X a w) {b:Nat} {c:Array Value} {T:TypeId} (hb:b∈X):Rel n0 M h0 s g X a (World.setBlk w b c T):=by
 have m:=r.mine .ext b hb;have oth: ∀b',b'≠b→hp (World.setBlk w b c T) b'=hp w b':=fun b' h=>zbp h
 have:=r.call (w':=World.setBlk w b c T) (Z':=g.Z) (kr:=fun _=>false) (kb:=fun _=>false) (ne:=fun _=>⟨⟨.bool,.fz,[]⟩,0⟩) (nb:=fun _=> []) (nf:=fun _=> []) (X':=X)
  (by rw[zaX]; exact Nat.le_refl _) (fun b' _ hn _ _=>oth b' (fun h=>hn (h ▸ hb))) (fun _ h=>h) (fun b hz=>by rw[zaX]; exact r.zs b (.inl hz)) (fun _ h=> .inl h)
  (fun j hj=>by simp at hj) (fun j hj=>by simp at hj) (fun j hj=>by simp at hj) (fun i j hi=>by simp at hi) (fun b' hb'=>⟨.inr (.inl hb'),(r.mine .ext b' hb').z⟩) (fun j hj=>by simp at hj) r.nx
  (fun j _ e he b hb=>(r.mine (.reg j) b ⟨⟨e,he⟩,hb⟩).z) (fun j cs hc=>(r.mine (.box j) _ ⟨⟨cs,hc⟩,rfl⟩).z)
 exact this
def zV (s:St) (site:Nat) (pk:Pk):Option St :=bif s.used site then none else some { s with sh:={ s.sh with regs:=zg s.sh.regs site (some ⟨pk,0⟩) },used:=zg s.used site true }
theorem zcR (r:Rel n0 M h0 s g X a w) {site:Nat} {pk:Pk} {s':St} {v:Value} {fp X':List Nat} (e:zV s site pk=some s') (hp':X.Perm (fp++X'))
  (ho:Own (hp w) g.Z (.sl pk.t) (.ow pk.a) pk.l [v] fp) :
  ∃g',Rel n0 M h0 s' g' X' a w∧CRel s'.sh g' (hp w) (.at site) v∧s'.used site=true:=by
 unfold zV at e;cases hs:s.used site with
 | true=>rw[hs]at e; simp at e
 | false =>
  rw[hs]at e; simp at e; subst e;refine⟨_,r.claim hs hp' ho,⟨?_,fun e he=> ?_⟩,zx _ _ _⟩
  ·obtain⟨ad,cap,rfl,_⟩:=zci ho; trivial
  ·simp[zx]
def zeg (h:za) (ad:Option Addr) (n:Nat) (size:Nat) (vs:List Value):Prop:=vs.length=n*size∧(vs= []∨ ∃b o,ad=some ⟨b,o,none⟩∧zh h b o (n*size)=some vs)
theorem zda {size n cap:Nat} {ad:Option Addr} {vs:List Value} (h:zeg (hp w) ad n size vs) (hz:vs= []→n*size=0) :
  (Builtin.firstCells size n (.slice ad n cap)).run P w= .ok vs.toArray w:=by
 obtain⟨hl,h⟩:=h;rcases h with rfl | ⟨b,o,rfl,hc⟩
 ·have:=hz rfl
  cases ad with
  | none=>simp[Builtin.firstCells]
  | some ad=>simp[Builtin.firstCells,this,loadCells,loadCellsFrom]
 ·simp[Builtin.firstCells,zed hc]
theorem ziO {t e:TypeId} {f:TypeInfo} {z:Value} (ht:P.underlying t=some (.slice e)) (hi:P.info? e=some f) (hz:f.zero=some z) {base xa:Option Addr} {sLen sCap n c:Nat}
  {olds news:List Value} (ho:zeg (hp w) base sLen f.size olds) (hn:zeg (hp w) xa n f.size news) (hcell: ∀u∈news,zR u) (hle:sLen≤sCap) (hbn:base=none→sCap=0)
  (hsz:0<f.size) (hzs:z.cells.size=f.size) (hbytes:(sLen+n)*f.bytes≤2^47) (hb0:0<f.bytes)
  (hroom:sLen+n≤sCap→ ∀ad,base=some ad→ ∃b o cur T,ad=⟨b,o,none⟩∧hp w b=some (.cells cur T (0,0))∧o+sCap*f.size≤cur.size) :
  (sLen+n≤sCap∧((base=none∧sLen=0∧n=0∧(Builtin.append_ #[t,t] t #[.slice base sLen sCap,.slice xa n c]).run P w= .ok (.slice none 0 0) w) ∨
   ∃b o cur T,base=some ⟨b,o,none⟩∧hp w b=some (.cells cur T (0,0))∧o+sCap*f.size≤cur.size ∧
    (Builtin.append_ #[t,t] t #[.slice base sLen sCap,.slice xa n c]).run P w= .ok (.slice base (sLen+n) sCap) (World.setBlk w b (zi cur (o+sLen*f.size) news) T))) ∨
  (sCap<sLen+n∧ ∃cap rest,sLen+n≤cap∧(sLen+n)*f.size+rest.size=cap*f.size ∧
   (Builtin.append_ #[t,t] t #[.slice base sLen sCap,.slice xa n c]).run P w= .ok (.slice (some ⟨w.heap.size,0,none⟩) (sLen+n) cap) (World.push w.drew (.cells (olds.toArray++news.toArray++rest) e))):=by
 have hn0:news= []→n*f.size=0:=fun h=>by have:=hn.1; rw[h]at this; simpa using this.symm
 have ho0:olds= []→sLen*f.size=0:=fun h=>by have:=ho.1; rw[h]at this; simpa using this.symm
 by_cases hfit:sLen+n≤sCap
 ·left
  refine⟨hfit,?_⟩;have hf:=zda (P:=P) (cap:=c) hn hn0;cases hbase:base with
  | none =>
   have:=hbn hbase;have h1:sLen=0:=by omega
   have h2:n=0:=by omega
   left;subst h1 h2;refine⟨rfl,rfl,rfl,?_⟩;have h3:news= []:=by have:=hn.1; simp at this; exact this
   subst h3;simp[Builtin.append_,zG ht,zZ hi,Builtin.lenOf,hf,this]
  | some ad =>
   obtain⟨b,o,cur,T,rfl,hB,hcap⟩:=hroom hfit ad hbase;right;refine⟨b,o,cur,T,rfl,hB,hcap,?_⟩
   have hfit2:o+sLen*f.size+news.length≤cur.size:=by
    have:=Nat.mul_le_mul_right f.size hfit;rw[hn.1];rw[Nat.add_mul]at this; omega
   have hst:=zbx (P:=P) (o:=o+sLen*f.size) news 0 w cur hB (by simpa using hfit2) hcell;simp only[Nat.add_zero]at hst;simp[Builtin.append_,zG ht,zZ hi,Builtin.lenOf,hf,hfit,zaO,hst]
 ·right
  refine⟨by omega,?_⟩;have hd:hp w.drew=hp w:=rfl;have hf:=zda (P:=P) (w:=w.drew) (cap:=c) hn hn0;have hfo:=zda (P:=P) (w:=w.drew) (cap:=sCap) ho ho0;have hlim:(sLen+n)*1≤(sLen+n)*f.bytes:=Nat.mul_le_mul_left _ hb0;have h63: ¬(9223372036854775807<((sLen:Int)+(n:Int))):=by omega
  have h48: ¬(281474976710656<Builtin.nextslicecap (sLen+n) sCap*f.bytes):=by
   have:=growslice_fits (need:=sLen+n) (old:=sCap) (bytes:=f.bytes) (by omega) (by omega);omega
  refine⟨grownCap w (sLen+n) sCap e,Builtin.zeroCells z.cells (grownCap w (sLen+n) sCap e-(sLen+n)),grownCap_ge _ _ _ _,?_,?_⟩
  ·rw[size_zeroCells,hzs,← Nat.add_mul]
   congr 1;have:=grownCap_ge w (sLen+n) sCap e;omega
  ·have hsz2:w.drew.heap.size=w.heap.size:=rfl
   simp[Builtin.append_,zG ht,zZ hi,typeInfo,zeroValue,hi,hz,Builtin.lenOf,hfit,h63,h48,Question.forced,hf,hfo,newRow,grownCap];have key: ∀x y:Obj,x=y→w.drew.alloc x=World.push w.drew y:=by rintro _ _ rfl; rfl
   refine key _ _ ?_;congr 1;apply Array.ext';simp[List.append_assoc]
end
def zbh:Ty→Ann
 | .sl t=> .ow (zbh t)
 | .pr a b=> .pr (zbh a) (zbh b)
 | .st _ t=>zbh t
 | _=> .fz
def Ty.noSl:Ty→Bool
 | .sl _=>false
 | .pr a b=>a.noSl&&b.noSl
 | .st _ t=>t.noSl
 | _=>true
def zad (t u:Ty) (l:List t.D):Option (List u.D) :=
 match Ty.eq t u with
 | some ⟨h⟩=>some (h ▸ l)
 | none=>none
def zaK (sh:Sh) (u:Ty) (an:Ann) (c:C):Option (List u.D×Sh) :=
 match c with
 | .nil=>some ([],sh)
 | .fz t l=>bif zC (an.flat u)then(match zad t u l with | some l=>some (l,sh) | none=>none)else none
 | .br t l=>bif u.noSl then(match zad t u l with | some l=>some (l,sh) | none=>none)else none
 | .at k=>match sh.regs k with
  | some e=>bif zC (an.flat u)then
    (bif zC (e.pk.a.flat e.pk.t)then(match zad e.pk.t u e.pk.l with | some l=>some (l,sh) | none=>none)else none)
   else(bif e.pk.a.beq an then(match zad e.pk.t u e.pk.l with | some l=>some (l,{ sh with regs:=zg sh.regs k none }) | none=>none)else none)
  | none=>none
 | .nd k ver _ q=>match sh.regs k with
  | some e=>bif Nat.beq e.ver ver&&zC (an.flat u)&&zC (q.a.flat q.t)then(match zad q.t u q.l with | some l=>some (l,sh) | none=>none)else none
  | none=>none
 | .vw k ver lo hi=>match sh.regs k with
  | some e=>bif Nat.beq e.ver ver&&zC (an.flat u)&&zC (e.pk.a.flat e.pk.t)then
    (match zad e.pk.t u ((e.pk.l.drop lo.toNat).take (hi-lo).toNat)with | some l=>some (l,sh) | none=>none)else none
  | none=>none
 | _=>none
theorem zaE {t u:Ty} {l:List t.D} {l':List u.D} (h:zad t u l=some l'): ∃e:t=u,l'=e ▸ l:=by
 unfold zad at h;split at h
 ·rename_i e _; simp at h; exact⟨e,h.symm⟩
 ·simp at h
theorem zeU {h:za} {Z Z':Nat→Prop}: ∀{t:Ty} {x:t.D} {cs:List Value},t.noSl=true→Rd h Z t x cs→Rd h Z' t x cs
 | .int _,_,_,_,e=>e
 | .bool,_,_,_,e=>e
 | .sl _,_,_,hn,_=>by simp[Ty.noSl]at hn
 | .pr a b,_,_,hn,e=>by
  simp only[Ty.noSl,Bool.and_eq_true]at hn;obtain⟨c1,c2,rfl,h1,h2⟩:=e;exact⟨c1,c2,rfl,zeU hn.1 h1,zeU hn.2 h2⟩
 | .st _ t,_,_,hn,e=>zeU (t:=t) hn e
theorem zcU {h:za} {Z Z':Nat→Prop}: ∀{t:Ty} {a:Ann} {x:t.D} {cs:List Value},t.noSl=true→Rd h Z t x cs→Own h Z' t a x cs []
 | .int _,_,_,_,_,e=>⟨e,rfl⟩
 | .bool,_,_,_,_,e=>⟨e,rfl⟩
 | .sl _,_,_,_,hn,_=>by simp[Ty.noSl]at hn
 | .pr a b,_,_,_,hn,e=>by
  simp only[Ty.noSl,Bool.and_eq_true]at hn;obtain⟨c1,c2,rfl,h1,h2⟩:=e;exact⟨c1,c2,[],[],rfl,rfl,zcU hn.1 h1,zcU hn.2 h2⟩
 | .st _ t,a,_,_,hn,e=>zcU (t:=t) (a:=a) hn e
theorem zd0 {h:za} {Z:Nat→Prop}: ∀{t:Ty} {a:Ann} {x:t.D} {cs:List Value} {f:List Nat},zC (a.flat t)=true→Own h Z t a x cs f→Rd h Z t x cs∧f= []
 | .int _,_,_,_,_,_,e=>e
 | .bool,_,_,_,_,_,e=>e
 | .sl t,.fz,_,_,_,_,e=>e
 | .sl t,.pr _ _,_,_,_,_,e=>e
 | .sl t,.ow _,_,_,_,hn,_=>by simp[Ann.flat,zC]at hn
 | .pr t u,a,_,_,_,hn,e=>by
  obtain⟨c1,c2,f1,f2,rfl,rfl,h1,h2⟩:=e;simp only[Ann.flat]at hn;obtain⟨n1,n2⟩:=zfc hn;obtain⟨g1,rfl⟩:=zd0 n1 h1;obtain⟨g2,rfl⟩:=zd0 n2 h2;exact⟨⟨c1,c2,rfl,g1,g2⟩,rfl⟩
 | .st _ t,a,_,_,_,hn,e=>zd0 (t:=t) (a:=a) (by cases a<;>exact hn) e
section
variable {P:Program} {E:Env} {n0:Nat} {M:Nat→Prop} {h0:Home} {s:St} {g:Gh} {X:List Nat} {a:Act} {w:World}
def Src (h:za) (Z:Nat→Prop) (u:Ty) (an:Ann) (l:List u.D) (v:Value) (fps:List (List Nat)):Prop :=∃ad cap vs,v= .slice ad l.length cap∧l.length*u.bytes≤2^47∧zeg h ad l.length u.size vs∧Elems h Z u an l vs fps
theorem zkh {h:za} {Z:Nat→Prop} {u:Ty} {an:Ann}:Src h Z u an [] (.slice none 0 0) []:=⟨none,0,[],rfl,by simp,⟨by simp,.inl rfl⟩,Elems.nil⟩
theorem zku {h:za} {Z:Nat→Prop} {u:Ty} {an:Ann} {l:List u.D} {v:Value} (hn:zC (an.flat u)=true) (e:Rd h Z (.sl u) l [v]):Src h Z u an l v (List.replicate l.length []):=by
 obtain⟨ad,cap,vs,hv,hb,_,hc,el⟩:=Rd.elems hn e;refine⟨ad,cap,vs,hv,hb,⟨el.len,?_⟩,el⟩;rcases hc with rfl | ⟨b,o,hd,_,hcs⟩
 ·left; have:=el.len; simpa using this
 ·exact .inr ⟨b,o,hd,hcs⟩
theorem zbU (n:Nat):(List.replicate n ([]:List Nat)).flatten= []:=by
 induction n with
 | zero=>rfl
 | succ n ih=>simp[List.replicate_succ,ih]
theorem zem {h:za} {Z:Nat→Prop} {u:Ty} {an a2:Ann} {l:List u.D} {vs:List Value} {fps:List (List Nat)} (h1:zC (an.flat u)=true) (h2:zC (a2.flat u)=true)
  (e:Elems h Z u a2 l vs fps):Elems h Z u an l vs (List.replicate l.length []):=by
 refine⟨e.len,by simp,fun i x hx=>⟨[],?_,?_⟩⟩
 ·have hi:=(List.getElem?_eq_some_iff.1 hx).1
  simp[List.getElem?_replicate,hi]
 ·obtain⟨f,_,ho⟩:=e.el i x hx
  exact zeF h1 (zd0 h2 ho).1
theorem zif {h:za} {Z:Nat→Prop} {u:Ty} {an a2:Ann} {l:List u.D} {v:Value} {fp:List Nat} (h1:zC (an.flat u)=true) (h2:zC (a2.flat u)=true)
  (e:Own h Z (.sl u) (.ow a2) l [v] fp):Src h Z u an l v (List.replicate l.length []):=by
 obtain⟨hd,cap,hv,hb,_,hc⟩:=Own.elems e;rcases hc with⟨rfl,rfl,rfl,rfl⟩ | ⟨b,o,c,T,vs,fps,rfl,_,_,_,hcs,el⟩
 ·exact⟨none,0,[],hv,by simp,⟨by simp,.inl rfl⟩,Elems.nil⟩
 ·exact⟨_,cap,vs,hv,hb,⟨el.len,.inr ⟨b,o,rfl,hcs⟩⟩,zem h1 h2 el⟩
theorem Elems.sub {h:za} {Z:Nat→Prop} {u:Ty} {an:Ann} {l:List u.D} {vs:List Value} {fps:List (List Nat)} (e:Elems h Z u an l vs fps) (lo n:Nat) (hn:lo+n≤l.length) :
  Elems h Z u an ((l.drop lo).take n) ((vs.drop (lo*u.size)).take (n*u.size)) ((fps.drop lo).take n):=by
 have hle:lo*u.size+n*u.size≤vs.length:=by
  rw[e.len,← Nat.add_mul]; exact Nat.mul_le_mul_right _ hn
 refine⟨by simp; rw[Nat.min_eq_left (by omega),Nat.min_eq_left (by omega)],by simp[e.fl],fun i x hx=> ?_⟩;rw[List.getElem?_take]at hx;split at hx
 ·rename_i hin
  rw[List.getElem?_drop]at hx;obtain⟨f,h1,h2⟩:=e.el (lo+i) x hx;refine⟨f,by rw[List.getElem?_take,if_pos hin,List.getElem?_drop]; exact h1,?_⟩
  have:(((vs.drop (lo*u.size)).take (n*u.size)).drop (i*u.size)).take u.size=(vs.drop ((lo+i)*u.size)).take u.size:=by
   rw[List.drop_take,List.drop_drop,List.take_take,Nat.add_mul];congr 1;have:=Nat.mul_le_mul_right u.size (show i+1≤n by omega);rw[Nat.add_mul]at this;omega
  rw[this]; exact h2
 ·cases hx
theorem ziR (r:Rel n0 M h0 s g X a w) {u:Ty} {an:Ann} {c:C} {l:List u.D} {sh':Sh} {v:Value} (e:zaK s.sh u an c=some (l,sh')) (hv:CRel s.sh g (hp w) c v) :
  ∃X' X'' fps,Rel n0 M h0 { s with sh:=sh' } g X' a w∧X'.Perm (List.flatten fps++X'')∧(∀b∈X,b∈X'')∧X''.length ≥ X.length∧Src (hp w) g.Z u an l v fps∧(∃Y,X''.Perm (Y++X)):=by
 have stay: ∀{sh':Sh},sh'=s.sh→ ∀n,Src (hp w) g.Z u an l v (List.replicate n [])→ ∃X' X'' fps,Rel n0 M h0 { s with sh:=sh' } g X' a w∧X'.Perm (List.flatten fps++X'')∧(∀b∈X,b∈X'')∧X''.length ≥ X.length∧Src (hp w) g.Z u an l v fps∧(∃Y,X''.Perm (Y++X)):=by
  rintro sh' rfl n hs
  refine⟨X,X,List.replicate n [],r,?_,fun _ h=>h,Nat.le_refl _,hs,[],.refl _⟩;rw[zbU]; exact .refl _
 cases c with
 | nil =>
  simp[zaK]at e; obtain⟨rfl,rfl⟩:=e;simp only[CRel]at hv; subst hv;exact stay rfl 0 zkh
 | fz t l0 =>
  simp only[zaK]at e;cases hn:zC (an.flat u)with
  | true =>
   rw[hn]at e; simp only[cond_true]at e;split at e
   ·rename_i l1 hc
    simp at e; obtain⟨rfl,rfl⟩:=e;obtain⟨rfl,rfl⟩:=zaE hc;exact stay rfl _ (zku hn hv)
   ·simp at e
  | false=>rw[hn]at e; simp at e
 | br t l0 =>
  simp only[zaK]at e;cases hn:u.noSl with
  | true =>
   rw[hn]at e; simp only[cond_true]at e;split at e
   ·rename_i l1 hc
    simp at e; obtain⟨rfl,rfl⟩:=e;obtain⟨he,hl1⟩:=zaE hc;subst he;simp only at hl1;subst hl1;refine stay rfl l1.length ?_;obtain⟨ad,cap,hv',hb,hcp,e⟩:=hv;simp at hv'; subst hv';have hel:Rd (hp w) (fun b=>g.Z b∨g.R b) (.sl t) l1 [.slice ad l1.length cap]:=⟨ad,cap,rfl,hb,hcp,e⟩
    obtain⟨ad2,cap2,vs,hv2,hb2,_,hc2,el⟩:=Rd.elems (a:= .fz) (by
     have: ∀(t:Ty),zC (Ann.fz.flat t)=true∧ ∀as,zC as=true→zC (Ann.fz.flat t++as)=true:=by
      intro t
      induction t with
      | int _=>exact⟨rfl,fun as h=>h⟩
      | bool=>exact⟨rfl,fun as h=>h⟩
      | sl _ _=>exact⟨rfl,fun as h=>h⟩
      | pr a b iha ihb =>
       refine⟨?_,fun as h=> ?_⟩
       ·show zC (Ann.fz.flat a++Ann.fz.flat b)=true
        exact iha.2 _ ihb.1
       ·show zC (Ann.fz.flat a++Ann.fz.flat b++as)=true
        rw[List.append_assoc];exact iha.2 _ (ihb.2 _ h)
      | st _ t ih=>exact ih
     exact(this t).1) hel
    simp at hv2; obtain⟨rfl,rfl⟩:=hv2;refine⟨ad,cap,vs,rfl,hb,⟨el.len,?_⟩,el.len,by simp,fun i x hx=> ?_⟩
    ·rcases hc2 with rfl | ⟨b,o,hd,_,hcs⟩
     ·left; have:=el.len; simpa using this
     ·exact .inr ⟨b,o,hd,hcs⟩
    ·obtain⟨f,h1,h2⟩:=el.el i x hx
     have hi:=(List.getElem?_eq_some_iff.1 hx).1;refine⟨[],by simp[List.getElem?_replicate,hi],zcU hn (Own.rd (Z':=fun b=>(g.Z b∨g.R b)∨b∈f) (fun _ h=> .inl h) (fun _ h=> .inr h) h2)⟩
   ·simp at e
  | false=>rw[hn]at e; simp at e
 | «at» k =>
  simp only[zaK]at e;split at e
  ·rename_i en hen
   have hv2:=hv.2 en hen;subst hv2;have hrg:=r.rg k en hen;cases hn:zC (an.flat u)with
   | true =>
    rw[hn]at e; simp only[cond_true]at e;cases hn2:zC (en.pk.a.flat en.pk.t)with
    | true =>
     rw[hn2]at e; simp only[cond_true]at e;split at e
     ·rename_i l1 hc
      simp at e; obtain⟨rfl,rfl⟩:=e;obtain⟨rfl,rfl⟩:=zaE hc;exact stay rfl _ (zif hn hn2 hrg)
     ·simp at e
    | false=>rw[hn2]at e; simp at e
   | false =>
    rw[hn]at e; simp only[cond_false]at e;cases hb:en.pk.a.beq an with
    | true =>
     rw[hb]at e; simp only[cond_true]at e;split at e
     ·rename_i l1 hc
      simp at e; obtain⟨rfl,rfl⟩:=e;obtain⟨rfl,rfl⟩:=zaE hc;have:=Ann.eq_of_beq hb;subst this;have r':=r.drop hen;obtain⟨hd,cap,hvv,hbb,hcp,hcase⟩:=Own.elems hrg;rcases hcase with⟨hl,hhd,hcap,hfp⟩ | ⟨b,o,c,T,vs,fps,hhd,hB,hcap,hfp,hcs,el⟩
      ·refine⟨_,X,[],r',?_,fun _ h=>h,Nat.le_refl _,?_,[],.refl _⟩
       ·rw[hfp]; exact .refl _
       ·refine⟨none,0,[],?_,hbb,⟨by rw[hl]; simp,.inl rfl⟩,?_⟩
        ·rw[hvv,hhd,hcap]
        ·show Elems (hp w) g.Z en.pk.t en.pk.a en.pk.l [] []
         rw[hl]; exact Elems.nil
      ·refine⟨_,b::X,fps,r',?_,fun _ h=>List.mem_cons_of_mem _ h,by simp,⟨hd,cap,vs,hvv,hbb,⟨el.len,.inr ⟨b,o,hhd,hcs⟩⟩,el⟩,[b],.refl _⟩
       rw[hfp];simp only[List.cons_append];exact List.perm_middle.symm
     ·simp at e
    | false=>rw[hb]at e; simp at e
  ·simp at e
 | nd k ver p q =>
  simp only[zaK]at e;split at e
  ·rename_i en hen
   cases hb:(Nat.beq en.ver ver&&zC (an.flat u)&&zC (q.a.flat q.t))with
   | true =>
    rw[hb]at e; simp only[cond_true]at e;simp only[Bool.and_eq_true]at hb;split at e
    ·rename_i l1 hc
     simp at e; obtain⟨rfl,rfl⟩:=e;obtain⟨rfl,rfl⟩:=zaE hc;obtain⟨fq,_,ho⟩:=zcT (r.rg k en hen) ((hv.2 en hen).2 (Nat.eq_of_beq_eq_true hb.1.1));exact stay rfl _ (zif hb.1.2 hb.2 ho)
    ·simp at e
   | false=>rw[hb]at e; simp at e
  ·simp at e
 | vw k ver lo hi =>
  simp only[zaK]at e;split at e
  ·rename_i en hen
   cases hb:(Nat.beq en.ver ver&&zC (an.flat u)&&zC (en.pk.a.flat en.pk.t))with
   | true =>
    rw[hb]at e; simp only[cond_true]at e;simp only[Bool.and_eq_true]at hb;split at e
    ·rename_i l1 hc
     simp at e; obtain⟨rfl,rfl⟩:=e;obtain⟨rfl,rfl⟩:=zaE hc;obtain⟨h1,h2,h3,aa,ll,cc,hh,hv'⟩:=(hv.2 en hen).2 (Nat.eq_of_beq_eq_true hb.1.1);obtain⟨ad,cap,rfl,hcp,ha⟩:=zhG (r.rg k en hen) h1 h2 h3 hh hv';have hlen:((en.pk.l.drop lo.toNat).take (hi-lo).toNat).length=(hi-lo).toNat:=by simp; omega
     refine stay rfl (hi-lo).toNat ?_;obtain⟨hd,cap0,hvv,hbb,hcp0,hcase⟩:=Own.elems (r.rg k en hen);have hnn:(hi-lo).toNat≤en.pk.l.length:=by omega
     refine⟨ad,cap,?_⟩;rcases hcase with⟨hl,hhd,hcap,hfp⟩ | ⟨b,o,c,T,vs,fps,hhd,hB,hcap,hfp,hcs,el⟩
     ·have hz:(hi-lo).toNat=0:=by rw[hl]at h3; simp at h3; omega
      refine⟨[],by rw[hlen],by rw[hlen,hz]; simp,⟨by rw[hlen,hz]; simp,.inl rfl⟩,?_⟩;rw[hz]; exact Elems.nil
     ·have el2:=zem (an:=an) hb.1.2 hb.2 (Elems.sub el lo.toNat (hi-lo).toNat (by omega))
      rw[hlen]at el2;refine⟨_,by rw[hlen],by rw[hlen]; exact Nat.le_trans (Nat.mul_le_mul_right _ hnn) hbb,⟨el2.len,?_⟩,el2⟩;by_cases hlt:lo<hi
      ·right
       rw[hhd]at hvv;refine⟨b,o+lo.toNat*en.pk.t.size,ha b o _ _ hvv hlt,?_⟩;rw[hlen];refine zaS hcs ?_;rw[← Nat.add_mul]; exact Nat.mul_le_mul_right _ (by omega)
      ·left
       have hz:(hi-lo).toNat=0:=by omega
       rw[hz]; simp
    ·simp at e
   | false=>rw[hb]at e; simp at e
  ·simp at e
 | int _ _=>simp[zaK]at e
 | bool _=>simp[zaK]at e
 | ptr _ _=>simp[zaK]at e
 | ef _ _ _ _=>simp[zaK]at e
 | eo _ _ _ _ _ _=>simp[zaK]at e
 | fn _ _=>simp[zaK]at e
 | fx _ _ _=>simp[zaK]at e
 | junk=>simp[zaK]at e
end
def zbs (E:Env) (s:St) (site:Nat) (u:Ty) (an:Ann) (l1:List u.D) (cy:C):Option (Bool×St) :=
 match zaK s.sh u an cy with
 | some (l2,sh)=>match zV { s with sh } site ⟨u,an,l1++l2⟩with
  | some s'=>some (decide ((l1.length+l2.length)*u.bytes≤140737488355328),s')
  | none=>none
 | none=>none
def zaL (E:Env) (s:St) (site:Nat) (u:Ty) (cx cy:C):Option (Bool×St) :=
 match cx with
 | .nil=>zbs E s site u ((E.an site).getD (zbh u)) [] cy
 | .at k=>match s.sh.regs k with
  | some e=>bif Nat.beq e.pk.t.size u.size&&Nat.beq e.pk.t.bytes u.bytes then
    zbs E { s with sh:={ s.sh with regs:=zg s.sh.regs k none } } site e.pk.t e.pk.a e.pk.l cy
   else none
  | none=>none
 | _=>none
section
variable {P:Program} {E:Env} {n0:Nat} {M:Nat→Prop} {h0:Home} {s:St} {g:Gh} {X:List Nat} {a:Act} {w:World}
theorem zi2 {sh:Sh} {h:za} {k:Nat} {c:C} {v:Value} (hreg: ∀k e,sh.regs k=some e→Own h g.Z (.sl e.pk.t) (.ow e.pk.a) e.pk.l [g.hd k] (g.fp k)) (hv:CRel sh g h c v) :
  CRel { sh with regs:=zg sh.regs k none } g h c v:=by
 refine CRel.over (Over.refl g h) hreg (fun j _=>⟨fun c' hc=>⟨⟨c',hc⟩,rfl⟩,fun e' he=> ?_⟩) hv;change zg sh.regs k none j=some e' at he;rw[zJ]at he;split at he
 ·simp at he
 ·exact⟨e',he,rfl,Nat.le_refl _,fun _=>⟨rfl,fun _ _=>rfl⟩⟩
structure Base (h:za) (Z:Nat→Prop) (u:Ty) (an:Ann) (l1:List u.D) (v:Value) (fp:List Nat):Prop where
 own:Own h Z (.sl u) (.ow an) l1 [v] fp
theorem zff (r:Rel n0 M h0 s g X a w) {o:Oper} {site:Nat} {u:Ty} {an:Ann} {l1:List u.D} {cx0 cy:Operand} {vy:C} {s':St} {t e:TypeId} {f:TypeInfo} {z:Value} {fp1 X1:List Nat}
  (ho:o.op= .call { callee:= .builtin .append,args:= #[cx0,cy],argTypes:= #[t,t] }) (hot:o.type=t) (ht:P.underlying t=some (.slice e)) (hi:P.info? e=some f) (hz:f.zero=some z)
  (hzs:z.cells.size=f.size) (hsz:f.size=u.size) (hby:f.bytes=u.bytes) (hpos:0<u.size) (hb0:0<u.bytes)
  (hX:X.Perm (fp1++X1)) (hbase:Own (hp w) g.Z (.sl u) (.ow an) l1 [a.eval cx0] fp1) (hy:CRel s.sh g (hp w) vy (a.eval cy))
  (e:zbs E s site u an l1 vy=some (true,s')):Good P n0 M h0 (s'.putO o.dst (.c (.at site))) o a w:=by
 unfold zbs at e;split at e
 ·rename_i l2 sh2 hsrc
  split at e
  ·rename_i s2 hnew
   simp only[Option.some.injEq,Prod.mk.injEq,decide_eq_true_eq]at e;obtain⟨hbnd,rfl⟩:=e;obtain⟨X',X'',fps2,r2,hpm,hin,hlen,hs,Y,hY⟩:=ziR r hsrc hy;obtain⟨ad2,cap2,vs2,hv2,hb2,hside2,el2⟩:=hs;obtain⟨hd,cap,hvv,hb1,hcap,hcase⟩:=Own.elems hbase;have hcells2:=Elems.isCells el2 hpos;have hlen12:(l1++l2).length=l1.length+l2.length:=List.length_append;have hXX:X'.Perm (fps2.flatten++(Y++(fp1++X1))):=hpm.trans (List.Perm.append_left _ (hY.trans (List.Perm.append_left _ hX)))
   have run: ∀{vs1:List Value},zeg (hp w) hd l1.length u.size vs1→_:=fun{vs1} hs1 =>
    ziO (P:=P) (w:=w) (base:=hd) (sLen:=l1.length) (sCap:=cap) (xa:=ad2) (n:=l2.length) (c:=cap2) (olds:=vs1) (news:=vs2) ht hi hz (by rw[hsz]; exact hs1) (by rw[hsz]; exact hside2) hcells2 hcap
     (fun hn=>by
      rcases hcase with⟨_,_,hc,_⟩ | ⟨b,o,c,T,vs,fps,hhd,_⟩
      ·exact hc
      ·rw[hhd]at hn; simp at hn) (by rw[hsz]; exact hpos) hzs (by rw[hby]; exact hbnd) (by rw[hby]; exact hb0)
     (fun _ ad hd'=>by
      rcases hcase with⟨_,hn,_,_⟩ | ⟨b,o,c,T,vs,fps,hhd,hB,hfit,_⟩
      ·rw[hn]at hd'; simp at hd'
      ·rw[hhd]at hd'; simp at hd'; subst hd'
       exact⟨b,o,c,T,rfl,hB,by rw[hsz]; exact hfit⟩)
   have fin: ∀{v:Value} {w':World} {fp X3:List Nat},Rel n0 M h0 { s with sh:=sh2 } g X3 a w'→(Builtin.append_ #[t,t] t #[a.eval cx0,a.eval cy]).run P w= .ok v w'→X3.Perm (fp++(Y++X1))∨(∃Q,X3.Perm (fp++Q)) →
     Own (hp w') g.Z (.sl u) (.ow an) (l1++l2) [v] fp→Good P n0 M h0 (s2.putO o.dst (.c (.at site))) o a w:=by
    intro v w' fp X3 r3 hrun hp3 hown;have hQ: ∃Q,X3.Perm (fp++Q):=hp3.elim (fun h=>⟨_,h⟩) id;obtain⟨Q,hQ⟩:=hQ;obtain⟨g',r4,hc4,hu4⟩:=zcR (pk:=⟨u,an,l1++l2⟩) r3 hnew hQ hown;refine⟨.value v,w',?_,.inl ⟨v,rfl,g',Q,r4.putO hc4 (fun k hk=>by simp[V.refs,C.refs]at hk; subst hk; exact hu4)⟩⟩;simp[execOp,ho,resolve,invoke,builtin,hot,hrun]
   have fresh: ∀{vs1:List Value} {fps1:List (List Nat)} {cap':Nat} {rest:Array Value},zeg (hp w) hd l1.length u.size vs1→Elems (hp w) g.Z u an l1 vs1 fps1→(∃Q,X'.Perm ((fps1++fps2).flatten++Q)) →
     l1.length+l2.length≤cap'→(l1.length+l2.length)*f.size+rest.size=cap'*f.size →
     (Builtin.append_ #[t,t] t #[.slice hd l1.length cap,.slice ad2 l2.length cap2]).run P w= .ok (.slice (some ⟨w.heap.size,0,none⟩) (l1.length+l2.length) cap') (World.push w.drew (.cells (vs1.toArray++vs2.toArray++rest) e)) →
     Good P n0 M h0 (s2.putO o.dst (.c (.at site))) o a w:=by
    intro vs1 fps1 cap' rest hs1 el1 ⟨Q,hQ⟩ hc1 hc2 hrun;have rd:Rel n0 M h0 { s with sh:=sh2 } g X' a w.drew:=r2.drawn rfl;have rp:=rd.push (.cells (vs1.toArray++vs2.toArray++rest) e);have hdsz:w.drew.heap.size=w.heap.size:=rfl;have hlt: ∀b,b<w.heap.size→hp (World.push w.drew (.cells (vs1.toArray++vs2.toArray++rest) e)) b=hp w b:=fun b hb=>zar (w:=w.drew) hb
    have hnewb:hp (World.push w.drew (.cells (vs1.toArray++vs2.toArray++rest) e)) w.heap.size=some (.cells (vs1.toArray++vs2.toArray++rest) e (0,0)):=zcr (w:=w.drew);have hfpl: ∀b∈(fps1++fps2).flatten,b<w.heap.size:=fun b hb=>(r2.mine .ext b (hQ.mem_iff.2 (List.mem_append.2 (.inl hb)))).s
    have el:=(Elems.append el1 el2).keep (h':=hp (World.push w.drew (.cells (vs1.toArray++vs2.toArray++rest) e))) (Z':=g.Z) (fun b hz=>hlt b (r.zs b (.inl hz))) (fun _ h=>h) (fun b hb=>hlt b (hfpl b hb));have hvl:(vs1++vs2).length=(l1++l2).length*u.size:=el.len
    have hsize:(vs1.toArray++vs2.toArray++rest).size=cap'*u.size:=by
     rw[← hsz,← hc2,hsz];simp only[Array.size_append,List.size_toArray];rw[← hlen12,← hvl]; simp
    have hcs:zh (hp (World.push w.drew (.cells (vs1.toArray++vs2.toArray++rest) e))) w.heap.size 0 ((l1++l2).length*u.size)=some (vs1++vs2):=by
     rw[za7 hnewb (by rw[hsize]; simp only[Nat.zero_add]; exact Nat.mul_le_mul_right _ (by omega))];rw[← hvl];simp only[List.drop_zero,Array.toList_append,Option.some.injEq];rw[List.take_append_of_le_length (by simp),List.take_of_length_le (by simp)]
    have hown:=el.own (cap:=cap') hnewb hcs (by rw[hsize]; omega) (by omega) (by rw[hlen12]; exact hbnd);rw[hlen12]at hown;refine fin rp (by rw[hvv,hv2]; exact hrun) (.inr ⟨Q,?_⟩) hown;rw[hdsz,List.cons_append];exact hQ.cons _
   rcases hcase with⟨hl,hhd,hcp,hfp⟩ | ⟨b,o',c,T,vs1,fps1,hhd,hB,hfit,hfp,hcs1,el1⟩
   ·
    subst hl;have hs1:zeg (hp w) hd ([]:List u.D).length u.size []:=⟨by simp,.inl rfl⟩;rcases run hs1 with⟨_,⟨_,_,hn0,hrun⟩ | ⟨b,o'',cur,T,hb',_⟩⟩ | ⟨hlt,cap',rest,hc1,hc2,hrun⟩
    ·have hl2:l2= []:=List.eq_nil_of_length_eq_zero hn0
     refine fin (fp:= []) r2 (by rw[hvv,hv2]; exact hrun) (.inr ⟨X',.refl _⟩) ?_;rw[hl2];exact⟨none,0,rfl,by simp,by simp,.inl ⟨rfl,rfl,rfl,rfl⟩⟩
    ·rw[hhd]at hb'; simp at hb'
    ·exact fresh hs1 Elems.nil ⟨_,hXX⟩ hc1 hc2 hrun
   ·have hs1:zeg (hp w) hd l1.length u.size vs1:=⟨el1.len,.inr ⟨b,o',hhd,hcs1⟩⟩
    have hbX:b∈X':=hXX.mem_iff.2 (by rw[hfp]; simp)
    have hQ1:X'.Perm ((fps1++fps2).flatten++(b::(Y++X1))):=by
     refine hXX.trans ?_;rw[hfp,List.perm_iff_count];intro y;simp only[List.count_append,List.count_cons,List.flatten_append];omega
    rcases run hs1 with⟨hroom,⟨hn,_⟩ | ⟨b'',o'',cur,T',hb',hB',hfit',hrun⟩⟩ | ⟨hlt,cap',rest,hc1,hc2,hrun⟩
    ·rw[hhd]at hn; simp at hn
    ·rw[hhd]at hb'; simp at hb'; obtain⟨rfl,rfl⟩:=hb'
     rw[hB]at hB'; simp at hB'; obtain⟨rfl,rfl⟩:=hB';have rm:=r2.modExt (b:=b) (c:=zi c (o'+l1.length*f.size) vs2) (T:=T) hbX;have hbs:b<w.heap.size:=(r2.mine .ext b hbX).s;have hBn:hp (World.setBlk w b (zi c (o'+l1.length*f.size) vs2) T) b=some (.cells (zi c (o'+l1.length*f.size) vs2) T (0,0)):=zbo hbs;have oth: ∀b',b'≠b→hp (World.setBlk w b (zi c (o'+l1.length*f.size) vs2) T) b'=hp w b':=fun b' h=>zbp h
     have hnd:(b::(fps1++fps2).flatten).Nodup:=by
      have h1:=hQ1.nodup_iff.1 r2.nx;have h2:=(List.perm_middle (a:=b) (l₁:=(fps1++fps2).flatten) (l₂:=Y++X1)).nodup_iff.1 h1;rw[← List.cons_append]at h2;exact(List.nodup_append.1 h2).1
     have hbn:=(List.nodup_cons.1 hnd).1
     have el:=(Elems.append el1 el2).keep (h':=hp (World.setBlk w b (zi c (o'+l1.length*f.size) vs2) T)) (Z':=g.Z)
      (fun b' hz=>oth b' (fun h=>(r2.mine .ext b hbX).z (h ▸ hz))) (fun _ h=>h) (fun b' hb'=>oth b' (fun h=>hbn (h ▸ hb')))
     have hvl1:=el1.len;have hvl2:=el2.len;have hroom2:(l1.length+l2.length)*u.size≤cap*u.size:=Nat.mul_le_mul_right _ hroom;rw[Nat.add_mul]at hroom2;have hfit3:o'+l1.length*f.size+vs2.length≤c.size:=by rw[hsz,hvl2]; omega
     have hcs:zh (hp (World.setBlk w b (zi c (o'+l1.length*f.size) vs2) T)) b o' ((l1++l2).length*u.size)=some (vs1++vs2):=by
      rw[hlen12,Nat.add_mul];refine zcf ?_ ?_
      ·have:=zap (h:=hp (World.setBlk w b (zi c (o'+l1.length*f.size) vs2) T)) (b:=b) vs1 o' (fun j hj=>by
        unfold zL;rw[hBn];simp only;rw[zah _ _ _ _ hfit3,if_neg (by rw[hsz]; omega)];have h3:=zab hcs1 j (by omega);unfold zL at h3;rw[hB]at h3
        exact h3.symm)
       rw[hvl1]at this; exact this
      ·have:=zap (h:=hp (World.setBlk w b (zi c (o'+l1.length*f.size) vs2) T)) (b:=b) vs2 (o'+l1.length*u.size) (fun j hj=>by
        unfold zL;rw[hBn];simp only;rw[zah _ _ _ _ hfit3,hsz,if_pos (by omega)]
        congr 1; omega)
       rw[hvl2]at this; exact this
     have hown:=el.own (cap:=cap) hBn hcs (by rw[za3]; exact hfit) (by rw[hlen12]; exact hroom) (by rw[hlen12]; exact hbnd);rw[hlen12]at hown;refine fin rm (by rw[hvv,hv2]; exact hrun) (.inr ⟨Y++X1,?_⟩) (by rw[hhd]; exact hown);refine hQ1.trans ?_;rw[List.cons_append];exact List.perm_middle
    ·exact fresh hs1 el1 ⟨_,hQ1⟩ hc1 hc2 hrun
  ·simp at e
 ·simp at e
end
theorem zav: ∀(t:Ty),(zN t).length=t.size
 | .int _=>rfl
 | .bool=>rfl
 | .sl _=>rfl
 | .pr a b=>by simp[zN,Ty.size,zav a,zav b]
 | .st _ t=>zav t
theorem zc0 (t:Ty):(zA t).cells.size=t.size:=by
 rw[← Array.length_toList,zbQ,zav]
theorem zcj {h:za} {Z:Nat→Prop}: ∀(t:Ty) (a:Ann),Own h Z t a t.dflt (zN t) []
 | .int k,_=>⟨⟨rfl,by constructor<;>cases k<;>decide⟩,rfl⟩
 | .bool,_=>⟨rfl,rfl⟩
 | .sl t,.ow a=>⟨none,0,rfl,by simp[Ty.dflt],by simp[Ty.dflt],.inl ⟨rfl,rfl,rfl,rfl⟩⟩
 | .sl t,.fz=>⟨zbM,rfl⟩
 | .sl t,.pr _ _=>⟨zbM,rfl⟩
 | .pr t u,a=>⟨_,_,[],[],rfl,rfl,zcj t a.fst,zcj u a.snd⟩
 | .st _ t,a=>zcj t a
theorem zb3 {h:za} {Z:Nat→Prop} {t:Ty} {a:Ann} {x:t.D} {vs:List Value} (hl:vs.length=t.size) (ho:Own h Z t a x vs []) (n:Nat) :
  Elems h Z t a (List.replicate n x) (List.replicate n vs).flatten (List.replicate n []):=by
 induction n with
 | zero=>exact Elems.nil
 | succ n ih =>
  have one:Elems h Z t a [x] vs [[]]:=by
   refine⟨by simp[hl],rfl,fun i y hy=> ?_⟩;cases i with
   | zero =>
    simp at hy; subst hy;refine⟨[],rfl,?_⟩;rw[Nat.zero_mul,List.drop_zero,List.take_of_length_le (by omega)]; exact ho
   | succ i=>simp at hy
  have:=Elems.append one ih;simpa [List.replicate_succ]using this
section
variable {P:Program} {E:Env} {n0:Nat} {M:Nat→Prop} {h0:Home} {s:St} {g:Gh} {X:List Nat} {a:Act} {w:World}
theorem zck (hE:EnvOk P E) {t:TypeId} {i:TI} {u:Ty} (ht:E.TT t=some i) (hu:i.ty= .sl u) :
  ∃f,P.underlying t=some (.slice i.el)∧P.info? i.el=some f∧f.zero=some (zA u)∧f.size=u.size∧f.bytes=u.bytes:=by
 have h:=(hE.ti t i ht).und;unfold zbZ at h;rw[hu]at h;obtain⟨h1,h2⟩:=h;obtain⟨f,hf,hz,hs,hb⟩:=zbV h2;exact⟨f,h1,hf,hz,hs,hb⟩
theorem zhQ (r:Rel n0 M h0 s g X a w) (hE:EnvOk P E) {o:Oper} {site:Nat} {t:TypeId} {i:TI} {u:Ty} {x y:Operand} {cx cy:C} {s':St}
  (ho:o.op= .call { callee:= .builtin .append,args:= #[x,y],argTypes:= #[t,t] }) (hot:o.type=t) (ht:E.TT t=some i) (hu:i.ty= .sl u) (hpos:0<u.size) (hb0:0<u.bytes)
  (hx:ze s x= .c cx) (hy:ze s y= .c cy) (e:zaL E s site u cx cy=some (true,s')):Good P n0 M h0 (s'.putO o.dst (.c (.at site))) o a w:=by
 obtain⟨hvx,_⟩:=zf r x;obtain⟨hvy,_⟩:=zf r y;rw[hx]at hvx;rw[hy]at hvy;obtain⟨f,h1,h2,hz,hs,hb⟩:=zck hE ht hu;unfold zaL at e;split at e
 ·refine zff r (fp1:= []) (X1:=X) ho hot h1 h2 hz (by rw[zc0,hs]) hs hb hpos hb0 (.refl _) ?_ hvy e
  simp only[VRel,CRel]at hvx;rw[hvx];exact⟨none,0,rfl,by simp,by simp,.inl ⟨rfl,rfl,rfl,rfl⟩⟩
 ·rename_i k
  split at e
  ·rename_i en hen
   cases hbb:(Nat.beq en.pk.t.size u.size&&Nat.beq en.pk.t.bytes u.bytes)with
   | true =>
    rw[hbb]at e;simp only[cond_true]at e;simp only[Bool.and_eq_true]at hbb;have e1:=Nat.eq_of_beq_eq_true hbb.1;have e2:=Nat.eq_of_beq_eq_true hbb.2;have hrg:=r.rg k en hen;have hv2:=hvx.2 en hen;refine zff (r.drop hen) (fp1:=g.fp k) (X1:=X) ho hot h1 h2 hz (by rw[zc0,hs]) (by rw[hs,e1]) (by rw[hb,e2]) (by rw[e1]; exact hpos) (by rw[e2]; exact hb0) (.refl _) ?_ (zi2 r.rg hvy) e;rw[hv2]; exact hrg
   | false=>rw[hbb]at e; simp at e
  ·simp at e
 ·simp at e
def zcW:Operand→Operand→Bool
 | .tmp i,.tmp j=>Nat.beq i j
 | _,_=>false
theorem zjr {x y:Operand} (h:zcW x y=true):a.eval x=a.eval y:=by
 unfold zcW at h;split at h
 ·rw[Nat.eq_of_beq_eq_true h]
 ·simp at h
theorem zf9 (r:Rel n0 M h0 s g X a w) (hE:EnvOk P E) {o:Oper} {site:Nat} {t:TypeId} {i:TI} {u:Ty} {x y:Operand} {k:IntKind} {n:Int} {s':St} {an:Ann}
  (ho:o.op= .makeSlice t x y) (ht:E.TT t=some i) (hu:i.ty= .sl u) (hpos:0<u.size) (hb0:0<u.bytes) (hx:ze s x= .c (.int k n)) (hxy:zcW x y=true)
  (h0n:0≤n) (hbd:n*u.bytes≤140737488355328) (e:zV s site ⟨u,an,List.replicate n.toNat u.dflt⟩=some s'):Good P n0 M h0 (s'.putO o.dst (.c (.at site))) o a w:=by
 obtain⟨hvx,_⟩:=zf r x;rw[hx]at hvx;have hvx:=hvx.1;obtain⟨f,h1,h2,hz,hs,hb⟩:=zck hE ht hu;have hvy:a.eval y= .int k n:=by rw[← zjr hxy]; exact hvx
 obtain⟨m,rfl⟩:=Int.eq_ofNat_of_zero_le h0n;have hcast:(m:Int)*(u.bytes:Int)=((m*u.bytes:Nat):Int):=(Int.natCast_mul _ _).symm;have hmb:m*u.bytes≤140737488355328:=by rw[hcast]at hbd; omega
 have hm:m*1≤m*u.bytes:=Nat.mul_le_mul_left _ hb0;have hrun:=run_make (P:=P) w t i.el f (zA u) h1 h2 hz k k (m:Int) (m:Int) (by omega) (by omega) (by rw[hb,Int.mul_comm,hcast]; omega) (by omega);simp only[Int.toNat_natCast]at hrun e
 have hsz:(madeCells (zA u).cells (m*f.size)).toList=(List.replicate m (zN u)).flatten:=by
  apply List.ext_getElem?;intro j
  have hlen:((List.replicate m (zN u)).flatten).length=m*u.size:=by
   rw[(zb3 (h:=hp w) (Z:=g.Z) (zav u) (zcj u .fz) m).len]; simp
  by_cases hj:j<m*u.size
  ·have hq:j / u.size<m:=Nat.div_lt_of_lt_mul (by rw[Nat.mul_comm]; exact hj)
   have hr:=Nat.mod_lt j hpos
   have e1:(madeCells (zA u).cells (m*f.size)).toList[j]? =(zN u)[j % u.size]? :=by
    unfold madeCells;rw[hs];have hsz:=zc0 u;simp only[Array.toList_map,Array.toList_range,List.getElem?_map,List.getElem?_range hj,Option.map_some,hsz];rw[← zbQ u];have hlt:j % u.size<(zA u).cells.size:=by rw[hsz]; exact hr
    rw[Array.getElem?_toList,Array.getElem?_eq_getElem hlt];simp[getElem!_pos,hlt,hsz,hr]
   rw[e1]
   have key: ∀(n:Nat) (vs:List Value) (hl:vs.length=u.size) (j:Nat),j<n*u.size→((List.replicate n vs).flatten)[j]? =vs[j % u.size]? :=by
    intro n
    induction n with
    | zero=>intro vs hl j hj; omega
    | succ n ih =>
     intro vs hl j hj;rw[List.replicate_succ,List.flatten_cons];by_cases hjl:j<u.size
     ·rw[List.getElem?_append_left (by omega),Nat.mod_eq_of_lt hjl]
     ·rw[List.getElem?_append_right (by omega),hl,ih vs hl _ (by rw[Nat.add_mul]at hj; omega)]
      congr 1;exact(Nat.mod_eq_sub_mod (by omega)).symm
   rw[key m _ (zav u) j hj]
  ·rw[List.getElem?_eq_none (by simp[madeCells,hs]; omega),List.getElem?_eq_none (by rw[hlen]; omega)]
 have rp:=r.push (.cells (madeCells (zA u).cells (m*f.size)) i.el);have hB:hp (World.push w (.cells (madeCells (zA u).cells (m*f.size)) i.el)) w.heap.size=some (.cells (madeCells (zA u).cells (m*f.size)) i.el (0,0)):=zcr;have hel:=zb3 (h:=hp (World.push w (.cells (madeCells (zA u).cells (m*f.size)) i.el))) (Z:=g.Z) (zav u) (zcj u an) m;have hsize:(madeCells (zA u).cells (m*f.size)).size=m*u.size:=by rw[size_madeCells,hs]
 have hcs:zh (hp (World.push w (.cells (madeCells (zA u).cells (m*f.size)) i.el))) w.heap.size 0 ((List.replicate m u.dflt).length*u.size)=some (List.replicate m (zN u)).flatten:=by
  rw[List.length_replicate,za7 hB (by rw[hsize]; omega),hsz];simp only[List.drop_zero,Option.some.injEq];rw[List.take_of_length_le (by rw[hel.len]; simp)]
 have hown:=hel.own (cap:=m) hB hcs (by rw[hsize]; omega) (by simp) (by simpa using hmb);rw[zbU,List.length_replicate]at hown;obtain⟨g',r4,hc4,hu4⟩:=zcR (pk:=⟨u,an,List.replicate m u.dflt⟩) rp e (fp:= [w.heap.size]) (X':=X) (.refl _) hown;refine⟨.value _,_,?_,.inl ⟨_,rfl,g',X,r4.putO hc4 (fun k hk=>by simp[V.refs,C.refs]at hk; subst hk; exact hu4)⟩⟩;simp only[execOp,ho];refine zj _ ?_;rw[hvx,hvy];exact hrun
def zdc (sh:Sh) (c:C) (lo hi:Int):Option (Bool×C) :=
 match c with
 | .fz t l=>some (decide (0≤lo)&&decide (lo≤hi)&&decide (hi≤l.length),.fz t ((l.drop lo.toNat).take (hi-lo).toNat))
 | .br t l=>some (decide (0≤lo)&&decide (lo≤hi)&&decide (hi≤l.length),.br t ((l.drop lo.toNat).take (hi-lo).toNat))
 | .at k=>match sh.regs k with
  | some e=>some (decide (0≤lo)&&decide (lo≤hi)&&decide (hi≤e.pk.l.length),.vw k e.ver lo hi)
  | none=>none
 | _=>none
theorem zjq {k:IntKind} {i y:Nat} {code:BoundsCode} (h:i≤y):(Instr.sliceBound (.int k (i:Int)) y code).run P w= .ok i w:=by
 simp[Instr.sliceBound,asIntOf,h]
theorem zkg {t:TypeId} {e:TypeId} {f:TypeInfo} (ht:P.underlying t=some (.slice e)) (hf:P.info? e=some f) {ad:Option Addr} {len cap:Nat} {lo hi:Option Value} {l h:Nat}
  (hlo:(lo=none∧l=0)∨ ∃k,lo=some (.int k (l:Int))) (hhi:(hi=none∧h=len)∨ ∃k,hi=some (.int k (h:Int))) (hlh:l≤h) (hh:h≤len) (hc:len≤cap) :
  (Instr.sliceAt t (.slice ad len cap) lo hi none).run P w= .ok (.slice (if cap=l then ad else ad.map (·.add (l*f.size))) (h-l) (cap-l)) w:=by
 have hb:(Instr.sliceBounds true len cap lo hi none).run P w= .ok (l,h,cap) w:=by
  have h2:h≤cap:=by omega
  rcases hlo with⟨rfl,rfl⟩ | ⟨k,rfl⟩<;>rcases hhi with⟨rfl,rfl⟩ | ⟨k',rfl⟩<;>simp[Instr.sliceBounds,zjq,hlh,h2]
 simp[Instr.sliceAt,zG ht,Instr.slice,hb,zZ hf]
theorem zjm {h:za} {Z:Nat→Prop} {t:Ty} {l:List t.D} {ad:Option Addr} {len cap:Nat} (e:Rd h Z (.sl t) l [.slice ad len cap]) {lo hi:Nat} (h1:lo≤hi) (h2:hi≤l.length) :
  Rd h Z (.sl t) ((l.drop lo).take (hi-lo)) [.slice (if cap=lo then ad else ad.map (·.add (lo*t.size))) (hi-lo) (cap-lo)]:=by
 obtain⟨a',cap',hv,hb,hcap,hcase⟩:=id e;simp at hv; obtain⟨rfl,rfl,rfl⟩:=hv;rcases hcase with hnil | ⟨b,o,rfl,_⟩
 ·have hz:hi-lo=0:=by rw[hnil]at h2; simp at h2; omega
  rw[hz,List.take_zero];exact⟨_,_,rfl,by simp,by simp,.inl rfl⟩
 ·refine Rd.sub e h1 h2 rfl (by omega) (fun hlt=> ?_)
  rw[if_neg (by omega)];simp[zaO]
theorem zjH (r:Rel n0 M h0 s g X a w) (hE:EnvOk P E) {o:Oper} {t:TypeId} {i:TI} {u:Ty} {x:Operand} {lo hi:Option Operand} {c c':C} {l h n:Int}
  (ho:o.op= .slice t x lo hi none) (ht:E.TT t=some i) (hu:i.ty= .sl u) (hx:ze s x= .c c) (hn:zai s.sh c=some n)
  (hlo:(lo=none∧l=0)∨ ∃y k,lo=some y∧ze s y= .c (.int k l)) (hhi:(hi=none∧h=n)∨ ∃y k,hi=some y∧ze s y= .c (.int k h))
  (e:zdc s.sh c l h=some (true,c')) (hsz:(match c with | .fz t _=>t.size | .br t _=>t.size | .at k=>(match s.sh.regs k with | some e=>e.pk.t.size | none=>0) | _=>0)=u.size) :
  Good P n0 M h0 (s.putO o.dst (.c c')) o a w:=by
 obtain⟨hvx,hux⟩:=zf r x;rw[hx]at hvx hux;obtain⟨f,h1,h2,hz,hs,hb⟩:=zck hE ht hu
 have main: ∀{len:Nat} {ad:Option Addr} {cap:Nat},a.eval x= .slice ad len cap→n=(len:Int)→len≤cap→0≤l→l≤h→h≤(len:Int) →
   (execOp a.eval o).run P w= .ok (.value (.slice (if cap=l.toNat then ad else ad.map (·.add (l.toNat*u.size))) (h.toNat-l.toNat) (cap-l.toNat))) w:=by
  intro len ad cap hv hnl hcap h0l hlh hhl
  have hlo':(lo.map a.eval=none∧l.toNat=0)∨ ∃k,lo.map a.eval=some (.int k (l.toNat:Int)):=by
   rcases hlo with⟨rfl,rfl⟩ | ⟨y,k,rfl,hy⟩
   ·exact .inl ⟨rfl,rfl⟩
   ·obtain⟨hvy,_⟩:=zf r y
    rw[hy]at hvy;exact .inr ⟨k,by rw[Option.map_some,hvy.1,Int.toNat_of_nonneg h0l]⟩
  have hhi':(hi.map a.eval=none∧h.toNat=len)∨ ∃k,hi.map a.eval=some (.int k (h.toNat:Int)):=by
   rcases hhi with⟨rfl,rfl⟩ | ⟨y,k,rfl,hy⟩
   ·exact .inl ⟨rfl,by omega⟩
   ·obtain⟨hvy,_⟩:=zf r y
    rw[hy]at hvy;exact .inr ⟨k,by rw[Option.map_some,hvy.1,Int.toNat_of_nonneg (by omega)]⟩
  simp only[execOp,ho];refine zj _ ?_;rw[hv,← hs];exact zkg h1 h2 hlo' hhi' (by omega) (by omega) hcap
 cases c with
 | fz t' l' =>
  simp only[zdc,Option.some.injEq,Prod.mk.injEq,Bool.and_eq_true,decide_eq_true_eq]at e;obtain⟨⟨⟨e1,e2⟩,e3⟩,rfl⟩:=e;simp[zai]at hn;obtain⟨ad,cap,hv,hbd,hcap⟩:=zfW hvx;have hrd:Rd (hp w) g.Z (.sl t') l' [.slice ad l'.length cap]:=by rw[← hv]; exact hvx
  have hc:=zjm hrd (lo:=l.toNat) (hi:=h.toNat) (by omega) (by omega);simp only at hsz;rw[hsz]at hc;refine Good.pure r (main hv hn.symm hcap e1 e2 e3) ?_ (by simp[V.refs,C.refs]);rw[show(h-l).toNat=h.toNat-l.toNat by omega];exact hc
 | br t' l' =>
  simp only[zdc,Option.some.injEq,Prod.mk.injEq,Bool.and_eq_true,decide_eq_true_eq]at e;obtain⟨⟨⟨e1,e2⟩,e3⟩,rfl⟩:=e;simp[zai]at hn;obtain⟨ad,cap,hv,hbd,hcap⟩:=zfW hvx;have hrd:Rd (hp w) (fun b=>g.Z b∨g.R b) (.sl t') l' [.slice ad l'.length cap]:=by rw[← hv]; exact hvx
  have hc:=zjm hrd (lo:=l.toNat) (hi:=h.toNat) (by omega) (by omega);simp only at hsz;rw[hsz]at hc;refine Good.pure r (main hv hn.symm hcap e1 e2 e3) ?_ (by simp[V.refs,C.refs]);rw[show(h-l).toNat=h.toNat-l.toNat by omega];exact hc
 | «at» k =>
  simp only[zdc]at e;split at e
  ·rename_i en hen
   simp only[Option.some.injEq,Prod.mk.injEq,Bool.and_eq_true,decide_eq_true_eq]at e;obtain⟨⟨⟨e1,e2⟩,e3⟩,rfl⟩:=e;simp only[zai,hen]at hn;simp at hn;obtain⟨ad,cap,hv,hbd,hcap⟩:=zci (r.rg k en hen);have hv2:=hvx.2 en hen;simp only[hen]at hsz;refine Good.pure r (main (hv2.trans hv) hn.symm hcap e1 e2 e3) ?_ (fun k' hk=>by simp[V.refs,C.refs]at hk; subst hk; exact r.ur _ en hen);refine⟨trivial,fun e' he'=> ?_⟩;rw[hen]at he'; simp at he'; subst he';refine⟨Nat.le_refl _,fun _=>⟨e1,e2,e3,_,_,_,hv,by rw[show(h-l).toNat=h.toNat-l.toNat by omega,hsz]⟩⟩
  ·simp at e
 | _=>simp[zdc]at e
end
theorem zf2 (off:Nat): ∀(l:List Value) (k:Nat) (cells:Array Value),
  (l.zipIdx k).foldl (fun cs (p:Value×Nat)=>cs.setIfInBounds (off+p.2) p.1) cells=zi cells (off+k) l
 | [],_,_=>rfl
 | v::l,k,cells=>by
  simp only[List.zipIdx_cons,List.foldl_cons,zi];exact zf2 off l (k+1) _
theorem zgm {place:Nat→Option (Nat×Nat)} {cells:Array Value} {i:Nat} {v:Value} {rest:List (Nat×Value)} {off sz:Nat} (hp:place i=some (off,sz)) (hs:v.cells.size=sz)
  (hf:off+sz≤cells.size):Instr.fill place cells ((i,v)::rest)=Instr.fill place (zi cells off v.cells.toList) rest:=by
 have h1: ¬(v.cells.size≠sz∨off+v.cells.size>cells.size):=by omega
 have h2:(v.cells.zipIdx.foldl (fun cs (p:Value×Nat)=>cs.setIfInBounds (off+p.2) p.1) cells)=zi cells off v.cells.toList:=by
  rw[← Array.foldl_toList,Array.toList_zipIdx];exact zf2 off v.cells.toList 0 cells
 rw[Instr.fill];simp only[hp];rw[if_neg (by simpa using h1)];exact congrArg (fun c=>Instr.fill place c rest) h2
section
variable {P:Program} {E:Env} {n0:Nat} {M:Nat→Prop} {h0:Home} {s:St} {g:Gh} {X:List Nat} {a:Act} {w:World}
theorem zfX: ∀(l:List Field),(∀f∈l,∃inf,P.info? f.type=some inf) →
  (l.mapM (fun f=>(do pure (f.offset,← sizeOf f.type):Sem (Nat×Nat)))).run P w= .ok (l.map fun f=>(f.offset,((P.info? f.type).map (·.size)).getD 0)) w
 | [],_=>by simp
 | f::l,h=>by
  obtain⟨inf,hi⟩:=h f (by simp);have ih:=zfX l (fun f hf=>h f (by simp[hf]));simp only[List.mapM_cons,Sem.run_bind,zZ hi,Result.andThen_ok,Sem.run_pure,ih];simp[hi]
def zcp (s:St) (fs:List (Nat×Nat×Bool)):List (Nat×Operand)→List C→Option (List C)
 | [],cs=>some cs
 | (j,x)::ps,cs=>match fs[j]?,zas (ze s x)with
  | some (off,sz,_),some ds=>bif Nat.beq ds.length sz&&Nat.ble (off+sz) cs.length then zcp s fs ps (zI cs off ds)else none
  | _,_=>none
theorem ze4 (r:Rel n0 M h0 s g X a w) {fs:List (Nat×Nat×Bool)} {place:Nat→Option (Nat×Nat)} (hpl: ∀(j off sz:Nat) (ag:Bool),fs[j]? =some (off,sz,ag)→place j=some (off,sz)) :
  ∀(ps:List (Nat×Operand)) (cs cs':List C) (cells:Array Value),zcp s fs ps cs=some cs'→CRels s.sh g (hp w) cs cells.toList→(∀c∈cs,∀k∈c.refs,s.used k=true) →
   ∃cells',Instr.fill place cells (ps.map fun p=>(p.1,a.eval p.2))=some cells'∧CRels s.sh g (hp w) cs' cells'.toList∧ ∀c∈cs',∀k∈c.refs,s.used k=true
 | [],cs,cs',cells,e,hc,hu=>by simp[zcp]at e; subst e; exact⟨cells,rfl,hc,hu⟩
 | (j,x)::ps,cs,cs',cells,e,hc,hu=>by
  simp only[zcp]at e;split at e
  ·rename_i off sz ag ds hj hx
   cases hb:(Nat.beq ds.length sz&&Nat.ble (off+sz) cs.length)with
   | true =>
    rw[hb]at e; simp only[cond_true]at e;simp only[Bool.and_eq_true]at hb;have h1:=Nat.eq_of_beq_eq_true hb.1;have h2:=Nat.le_of_ble_eq_true hb.2;obtain⟨hv,hur⟩:=zf r x;obtain⟨hcv,hrf⟩:=zb2 hx hv;have hl:=CRels.len hcv;have hl2:=CRels.len hc;have hsz:(a.eval x).cells.size=sz:=by rw[← Array.length_toList,hl,h1]
    have hfit:off+(a.eval x).cells.toList.length≤cells.size:=by rw[hl,h1]; simp at hl2; omega
    obtain⟨cells',h3,h4,h5⟩:=ze4 r hpl ps (zI cs off ds) cs' (zi cells off (a.eval x).cells.toList) e
     (by rw[zcl hfit]; exact CRels.splice hc hcv)
     (fun c hm k hk=>by
      unfold zI at hm;simp only[List.mem_append]at hm;rcases hm with(hm | hm) | hm
      ·exact hu c (List.mem_of_mem_take hm) k hk
      ·exact hur k (hrf c hm k hk)
      ·exact hu c (List.mem_of_mem_drop hm) k hk)
    refine⟨cells',?_,h4,h5⟩;rw[List.map_cons,zgm (hpl j off sz ag hj) hsz (by simp at hl2; omega)];exact h3
   | false=>rw[hb]at e; simp at e
  ·simp at e
theorem ziy (r:Rel n0 M h0 s g X a w) (hE:EnvOk P E) {o:Oper} {t:TypeId} {i:TI} {n:Nat} {ty:Ty} {parts:Array (Nat×Operand)} {cs:List C}
  (ho:o.op= .build t parts) (ht:E.TT t=some i) (hst:i.ty= .st n ty) (e:zcp s i.fs parts.toList (zaG i.ty)=some cs):Good P n0 M h0 (s.putO o.dst (.agg cs)) o a w:=by
 have hti:=hE.ti t i ht;obtain⟨f,hf,hz,hsz,_⟩:=zbV hti.inf;have hu:=hti.und;unfold zbZ at hu;rw[hst]at hu;obtain⟨fds,h1,h2⟩:=hu
 have hinf: ∀fd∈fds.toList,∃inf,P.info? fd.type=some inf:=by
  intro fd hfd;obtain⟨j,hj⟩:=List.getElem?_of_mem hfd;have h3:fds.toList[j]?.map (zaT P)=(i.fs[j]?).map (fun x=>(x.1,some x.2.1,x.2.2)):=by rw[← List.getElem?_map,h2,List.getElem?_map]
  rw[hj]at h3;cases hi:i.fs[j]? with
  | none=>rw[hi]at h3; simp at h3
  | some x =>
   rw[hi]at h3;simp only[Option.map_some,Option.some.injEq,zaT,Prod.mk.injEq]at h3;cases hin:P.info? fd.type with
   | none=>rw[hin]at h3; simp at h3
   | some inf=>exact⟨inf,rfl⟩
 have hpl: ∀(j off sz:Nat) (ag:Bool),i.fs[j]? =some (off,sz,ag)→((fds.toList.map fun f=>(f.offset,((P.info? f.type).map (·.size)).getD 0)).toArray)[j]? =some (off,sz):=by
  intro j off sz ag hj;have h3:fds.toList[j]?.map (zaT P)=some (off,some sz,ag):=by rw[← List.getElem?_map,h2,List.getElem?_map,hj]; rfl
  cases hfd:fds.toList[j]? with
  | none=>rw[hfd]at h3; simp at h3
  | some fd =>
   rw[hfd]at h3;simp only[Option.map_some,Option.some.injEq,zaT,Prod.mk.injEq]at h3;obtain⟨h4,h5,h6⟩:=h3;obtain⟨h5,-⟩:=zde h5;rw[List.getElem?_toArray,List.getElem?_map,hfd];simp[h4,h5]
 obtain⟨cells',h3,h4,h5⟩:=ze4 r (place:=fun j=>((fds.toList.map fun f=>(f.offset,((P.info? f.type).map (·.size)).getD 0)).toArray)[j]?) hpl parts.toList (zaG i.ty) cs (zA i.ty).cells e
  (by rw[zbQ]; exact zcc i.ty) (fun c hc k hk=>by rw[zbN _ c hc]at hk; simp at hk)
 refine Good.pure r (v:= .agg cells') ?_ ⟨cells'.toList,by simp,h4⟩ (fun k hk=>by
  simp only[V.refs,List.mem_flatMap]at hk;obtain⟨c,hc,hk⟩:=hk
  exact h5 c hc k hk)
 simp only[execOp,ho];refine zj _ ?_
 have hm:(fds.mapM (fun f=>(do pure (f.offset,← sizeOf f.type):Sem (Nat×Nat)))).run P w= .ok (fds.toList.map fun f=>(f.offset,((P.info? f.type).map (·.size)).getD 0)).toArray w:=by
  rw[Array.mapM_eq_mapM_toList,Sem.run_map,zfX _ hinf];rfl
 have hpt:(parts.map fun(x:Nat×Operand)=>(x.1,a.eval x.2)).toList=parts.toList.map fun p=>(p.1,a.eval p.2):=by simp
 simp only[Instr.build,Sem.run_bind,zdb hf hz,Result.andThen_ok,zG h1,hm];rw[hpt,h3];simp
def zcO (s:St) (u:Ty) (an:Ann):Nat→List (Nat×Operand)→Sh→Option (List u.D×Sh)
 | _,[],sh=>some ([],sh)
 | n,(j,x)::ps,sh=>bif Nat.beq j n then
   (match zas (ze s x)with
   | some cs=>match mvT sh u an cs with
    | some (d,sh)=>match zcO s u an (n+1) ps sh with
     | some (l,sh)=>some (d::l,sh)
     | none=>none
    | none=>none
   | none=>none)
  else none
theorem zfM {u:Ty} {an:Ann} {sz:Nat} (hsz:u.size=sz): ∀(ps:List (Nat×Operand)) (n:Nat) (sh sh':Sh) (g:Gh) (X:List Nat) (l:List u.D) (cells:Array Value),
  Rel n0 M h0 { s with sh:=sh } g X a w→(∀x,∀cs,zas (ze s x)=some cs→CRels sh g (hp w) cs (a.eval x).cells.toList)→zcO s u an n ps sh=some (l,sh') →
  (n+ps.length)*sz≤cells.size →
  ∃Z' fps vs X' cells',(∀b,g.Z b→Z' b)∧Rel n0 M h0 { s with sh:=sh' } { g with Z:=Z' } X' a w∧X'.Perm (List.flatten fps++X)∧Elems (hp w) Z' u an l vs fps∧l.length=ps.length ∧
   Instr.fill (fun i=>some (i*sz,sz)) cells (ps.map fun p=>(p.1,a.eval p.2))=some cells'∧cells'.size=cells.size ∧
   (∀j,j<n*sz→cells'[j]? =cells[j]?)∧(∀j,j<ps.length*sz→cells'[n*sz+j]? =vs[j]?)
 | [],n,sh,sh',g,X,l,cells,r,hv,e,hfit=>by
  simp[zcO]at e; obtain⟨rfl,rfl⟩:=e;exact⟨g.Z,[],[],X,cells,fun _ h=>h,r,.refl _,Elems.nil,rfl,rfl,rfl,fun _ _=>rfl,fun j hj=>by simp at hj⟩
 | (j,x)::ps,n,sh,sh',g,X,l,cells,r,hv,e,hfit=>by
  simp only[zcO]at e;cases hb:Nat.beq j n with
  | true =>
   rw[hb]at e; simp only[cond_true]at e;have hjn:=Nat.eq_of_beq_eq_true hb;subst hjn;split at e
   ·rename_i cs hx
    split at e
    ·rename_i d sh1 h1
     split at e
     ·rename_i l2 sh2 h2
      simp at e; obtain⟨rfl,rfl⟩:=e;obtain⟨Z1,f,X1,hz1,r1,p1,o1⟩:=zbr r h1 (hv x cs hx);obtain⟨sb,sr⟩:=zbe h1;have hlen:=Own.len o1;have hsize:(a.eval x).cells.size=sz:=by rw[← Array.length_toList,hlen,hsz]
      have hfit1:j*sz+sz≤cells.size:=by
       simp only[List.length_cons]at hfit;have:(j+1)*sz≤(j+(ps.length+1))*sz:=Nat.mul_le_mul_right _ (by omega);rw[Nat.add_mul,Nat.one_mul]at this; omega
      obtain⟨Z2,fps,vs,X2,cells',hz2,r2,p2,el,hll,hfill,hcs,hlo,hhi⟩:=zfM hsz ps (j+1) sh1 sh2 { g with Z:=Z1 } X1 l2 (zi cells (j*sz) (a.eval x).cells.toList) r1
       (fun y cs' hy=>CRels.over (zbK hz1) r.rg (fun c _ k _=>zaB sb sr k) (hv y cs' hy)) h2 (by
        rw[za3]; simp only[List.length_cons]at hfit; rw[show j+1+ps.length=j+(ps.length+1)by omega]; exact hfit)
      have hspf:j*sz+(a.eval x).cells.toList.length≤cells.size:=by rw[Array.length_toList,hsize]; exact hfit1
      have one:Elems (hp w) Z2 u an [d] (a.eval x).cells.toList [f]:=by
       refine⟨by simp[hlen],rfl,fun i y hy=> ?_⟩;cases i with
       | zero =>
        simp at hy; subst hy;refine⟨f,rfl,?_⟩;rw[Nat.zero_mul,List.drop_zero,List.take_of_length_le (by omega)];exact Own.keep (fun _ _=>rfl) hz2 (fun _ _=>rfl) o1
       | succ i=>simp at hy
      refine⟨Z2,f::fps,(a.eval x).cells.toList++vs,X2,cells',fun b h=>hz2 b (hz1 b h),r2,?_,by simpa using Elems.append one el,by simp[hll],?_,?_,?_,?_⟩
      ·refine p2.trans ((List.Perm.append_left _ p1).trans ?_)
       simp only[List.flatten_cons,List.append_assoc];rw[← List.append_assoc,← List.append_assoc];exact List.Perm.append_right _ List.perm_append_comm
      ·rw[List.map_cons,zgm rfl hsize hfit1]
       exact hfill
      ·rw[hcs,za3]
      ·intro m hm
       rw[hlo m (by rw[Nat.add_mul]; omega),zah _ _ _ _ hspf,if_neg (by omega)]
      ·intro m hm
       simp only[List.length_cons]at hm;rw[Nat.add_mul,Nat.one_mul]at hm;by_cases hms:m<sz
       ·rw[hlo _ (by rw[Nat.add_mul]; omega),zah _ _ _ _ hspf,if_pos (by rw[Array.length_toList,hsize]; omega),List.getElem?_append_left (by rw[Array.length_toList,hsize]; exact hms)]
        congr 1; omega
       ·rw[List.getElem?_append_right (by rw[Array.length_toList,hsize]; omega),Array.length_toList,hsize,← hhi (m-sz) (by omega)]
        congr 1;rw[Nat.add_mul]; omega
     ·simp at e
    ·simp at e
   ·simp at e
  | false=>rw[hb]at e; simp at e
theorem zjJ (r:Rel n0 M h0 s g X a w) (hE:EnvOk P E) {o:Oper} {site:Nat} {t:TypeId} {i:TI} {u:Ty} {n:Nat} {parts:Array (Nat×Operand)} {an:Ann} {l:List u.D} {sh:Sh} {s':St}
  (ho:o.op= .buildSlice t n parts) (ht:E.TT t=some i) (hu:i.ty= .sl u) (hpos:0<u.size) (hn:parts.toList.length=n) (hbig:n*u.size≤16777216) (hbd:n*u.bytes≤140737488355328)
  (e:zcO s u an 0 parts.toList s.sh=some (l,sh)) (e2:zV { s with sh } site ⟨u,an,l⟩=some s'):Good P n0 M h0 (s'.putO o.dst (.c (.at site))) o a w:=by
 obtain⟨f,h1,h2,hz,hs,hb⟩:=zck hE ht hu;generalize hZ:(if n*f.size=0 then(#[]:Array Value)else(zA u).cells)=zc;have hc0:((Array.range (n*f.size)).map (zc[· % zc.size]!)).size=n*f.size:=by simp
 obtain⟨Z',fps,vs,X',cells',hz1,r1,p1,el,hll,hfill,hcs,_,hhi⟩:=zfM (u:=u) (an:=an) (sz:=f.size) hs.symm parts.toList 0 s.sh sh g X l
  ((Array.range (n*f.size)).map (zc[· % zc.size]!)) r (fun x cs hx=>(zb2 hx (zf r x).1).1) e (by rw[hc0,hn]; simp)
 have hln:l.length=n:=by rw[hll,hn]
 have rp:=r1.push (.cells cells' i.el);have hB:hp (World.push w (.cells cells' i.el)) w.heap.size=some (.cells cells' i.el (0,0)):=zcr
 have hcells:cells'.toList=vs:=by
  apply List.ext_getElem?;intro j;have hvl:=el.len;by_cases hj:j<n*f.size
  ·have:=hhi j (by rw[hn]; exact hj)
   rw[Nat.zero_mul,Nat.zero_add]at this;rw[Array.getElem?_toList]; exact this
  ·rw[List.getElem?_eq_none (by rw[Array.length_toList,hcs,hc0]; omega),List.getElem?_eq_none (by rw[hvl,hln,← hs]; omega)]
 have hlt: ∀b,b<w.heap.size→hp (World.push w (.cells cells' i.el)) b=hp w b:=fun b hb=>zar hb
 have el2:=el.keep (h':=hp (World.push w (.cells cells' i.el))) (Z':=Z') (fun b hz=>hlt b (r1.zs b (.inl hz))) (fun _ h=>h)
  (fun b hb=>hlt b (r1.mine .ext b (p1.mem_iff.2 (List.mem_append.2 (.inl hb)))).s)
 have hsize:cells'.size=n*u.size:=by rw[hcs,hc0,hs]
 have hcs2:zh (hp (World.push w (.cells cells' i.el))) w.heap.size 0 (l.length*u.size)=some vs:=by
  rw[za7 hB (by rw[hsize,hln]; omega),hcells];simp only[List.drop_zero,Option.some.injEq];rw[List.take_of_length_le (Nat.le_of_eq el.len)]
 have hown:=el2.own (cap:=n) hB hcs2 (by rw[hsize]; omega) (by omega) (by rw[hln]; exact hbd);rw[hln]at hown;obtain⟨g',r4,hc4,hu4⟩:=zcR (pk:=⟨u,an,l⟩) rp e2 (fp:=w.heap.size::fps.flatten) (X':=X) (by rw[List.cons_append]; exact p1.cons _) hown;refine⟨.value _,_,?_,.inl ⟨_,rfl,g',X,r4.putO hc4 (fun k hk=>by simp[V.refs,C.refs]at hk; subst hk; exact hu4)⟩⟩;simp only[execOp,ho];refine zj _ ?_;have hpt:(parts.map fun(x:Nat×Operand)=>(x.1,a.eval x.2)).toList=parts.toList.map fun p=>(p.1,a.eval p.2):=by simp
 have hnb: ¬(n*f.size>2^24):=by rw[hs]; omega
 unfold Instr.buildSlice;rw[Sem.run_bind,zG h1,Result.andThen_ok];simp only[Sem.run_bind,Result.andThen_ok,zZ h2];rw[Sem.run_ite,if_neg hnb,Sem.run_ite];by_cases h0:n*f.size=0
 ·rw[if_pos h0]at hZ
  subst hZ;rw[if_pos h0];simp only[Sem.run_bind,Sem.run_pure,Result.andThen_ok];rw[hpt,hfill];simp[zcF]
 ·rw[if_neg h0]at hZ
  subst hZ;rw[if_neg h0];simp only[Sem.run_bind,Sem.run_pure,Result.andThen_ok,zdb h2 hz];rw[hpt,hfill];simp[zcF]
end
def zdK (sh:Sh):C→Option (Nat×Int×Int)
 | .vw k ver lo hi=>match sh.regs k with
  | some e=>bif Nat.beq e.ver ver then some (k,lo,hi)else none
  | none=>none
 | .at k=>match sh.regs k with
  | some e=>some (k,0,(e.pk.l.length:Int))
  | none=>none
 | _=>none
def zbL (s:St) (u:Ty) (k:Nat) (lo:Nat) (m:List u.D):Option St :=
 match s.sh.regs k with
 | some e=>bif e.pk.t.scalar then(match zad u e.pk.t m with
  | some m=>some { s with sh:={ s.sh with regs:=zg s.sh.regs k (some ⟨{ e.pk with l:=e.pk.l.take lo++m++e.pk.l.drop (lo+m.length) },e.ver+1⟩) } }
  | none=>none)else none
 | none=>none
def zjU (u:Ty):C→Option (List u.D)
 | .nil=>some []
 | .fz t l=>zad t u l
 | .br t l=>zad t u l
 | _=>none
def zfF (E:Env) (s:St) (o:Oper) (t:Nat) (x y:Operand):Option (Bool×St) :=
 match E.TT t with
 | some i=>match i.ty with
  | .sl u=>match ze s x,ze s y with
   | .c cx,.c cy=>match zdK s.sh cx,zjU u cy with
    | some (k,lo,hi),some l=>match zbL s u k lo.toNat (l.take (hi-lo).toNat)with
     | some s'=>some (true,s'.putO o.dst (.c (.int .i64 ((l.take (hi-lo).toNat).length:Int))))
     | none=>none
    | _,_=>none
   | _,_=>none
  | _=>none
 | none=>none
def zek (E:Env) (s:St) (o:Oper) (t:Nat) (x:Operand):Option (Bool×St) :=
 match E.TT t with
 | some i=>match i.ty with
  | .sl u=>match ze s x with
   | .c cx=>match zdK s.sh cx with
    | some (k,lo,hi)=>match zbL s u k lo.toNat (List.replicate (hi-lo).toNat u.dflt)with
     | some s'=>some (true,s'.putO o.dst .junk)
     | none=>none
    | none=>none
   | _=>none
  | _=>none
 | none=>none
theorem zgw {h:za} {Z:Nat→Prop} {t:Ty} {a:Ann} {x:t.D} {cs:List Value} {f:List Nat} (hs:t.scalar=true) (e:Own h Z t a x cs f):Rd h Z t x cs∧f= []:=by
 cases t<;>simp[Ty.scalar]at hs
 all_goals exact e
theorem zep {fps:List (List Nat)} (h: ∀f∈fps,f= []):fps.flatten= []:=by
 induction fps with
 | nil=>rfl
 | cons f fps ih=>simp[h f (by simp),ih (fun f hf=>h f (by simp[hf]))]
theorem zhx {t:Ty} (h:t.scalar=true):t.noSl=true:=by
 cases t<;>simp[Ty.scalar]at h<;>rfl
theorem zkc {t:Ty} (h:t.scalar=true):zC (Ann.fz.flat t)=true:=by
 cases t<;>simp[Ty.scalar]at h<;>rfl
theorem zhw {t:Ty} (h:t.scalar=true):0<t.bytes:=by
 cases t with
 | int k=>cases k<;>decide
 | bool=>decide
 | _=>simp[Ty.scalar]at h
theorem zjw {n:Nat} (h:n≤140737488355328):zaw .i64 (n:Int):=by
 constructor
 ·show(-9223372036854775808:Int)≤n; omega
 ·show(n:Int)≤9223372036854775807; omega
section
variable {P:Program} {E:Env} {n0:Nat} {M:Nat→Prop} {h0:Home} {s s':St} {g:Gh} {X:List Nat} {a:Act} {w:World}
theorem zfH (r:Rel n0 M h0 s g X a w) {c:C} {k:Nat} {lo hi:Int} {v:Value} (e:zdK s.sh c=some (k,lo,hi)) (hv:CRel s.sh g (hp w) c v) :
  ∃en ad len cap,s.sh.regs k=some en∧g.hd k= .slice ad len cap∧0≤lo∧lo≤hi∧hi≤en.pk.l.length∧v= .slice (if cap=lo.toNat then ad else ad.map (·.add (lo.toNat*en.pk.t.size))) (hi-lo).toNat (cap-lo.toNat):=by
 cases c<;>simp only[zdK]at e
 case vw j ver l h =>
  split at e
  ·rename_i en hen
   cases hb:Nat.beq en.ver ver with
   | false=>rw[hb]at e; simp at e
   | true =>
    rw[hb]at e; simp at e; obtain⟨rfl,rfl,rfl⟩:=e;obtain⟨h1,h2,h3,ad,len,cap,hh,hvv⟩:=(hv.2 en hen).2 (Nat.eq_of_beq_eq_true hb);exact⟨en,ad,len,cap,hen,hh,h1,h2,h3,hvv⟩
  ·simp at e
 case «at» j =>
  split at e
  ·rename_i en hen
   simp at e; obtain⟨rfl,rfl,rfl⟩:=e;obtain⟨ad,cap,hh,hb,hc⟩:=zci (r.rg j en hen);refine⟨en,ad,_,cap,hen,hh,Int.le_refl _,by omega,by omega,?_⟩;rw[hv.2 en hen,hh];simp;intro _;cases ad with
   | none=>rfl
   | some ad=>obtain⟨b,o,z⟩:=ad; rfl
  ·simp at e
 all_goals simp at e
theorem zgt (r:Rel n0 M h0 s g X a w) {k:Nat} {en:Entry} (hk:s.sh.regs k=some en) (hsc:en.pk.t.scalar=true) {ad:Option Addr} {len cap:Nat} (hh:g.hd k= .slice ad len cap) {lo:Nat} {m:List en.pk.t.D}
  (hm:lo+m.length≤en.pk.l.length) {vs:List Value} (he:Elems (hp w) g.Z en.pk.t en.pk.a m vs (List.replicate m.length [])) :
  ∃w',Rel n0 M h0 { s with sh:={ s.sh with regs:=zg s.sh.regs k (some ⟨{ en.pk with l:=en.pk.l.take lo++m++en.pk.l.drop (lo+m.length) },en.ver+1⟩) } } { g with fp:=zg g.fp k (g.fp k) } X a w' ∧
   ((m= []∧w'=w)∨(m≠ []∧lo<cap∧ ∃b o,ad=some ⟨b,o,none⟩∧(storeCells ⟨b,o+lo*en.pk.t.size,none⟩ vs).run P w= .ok () w')):=by
 have hsz:en.pk.t.size=1:=(by cases ht:en.pk.t<;>rw[ht]at hsc<;>simp[Ty.scalar]at hsc<;>rfl);have ho:=r.rg k en hk;obtain⟨hd,cap',hv,hbnd,hlc,hcase⟩:=Own.elems ho;rw[hh]at hv; simp at hv; obtain⟨rfl,hlen,rfl⟩:=hv;by_cases hm0:m= []
 ·subst hm0
  refine⟨w,?_,.inl ⟨rfl,rfl⟩⟩;have hl2:en.pk.l.take lo++ []++en.pk.l.drop (lo+([]:List en.pk.t.D).length)=en.pk.l:=by simp
  rw[hl2];exact r.modReg hk rfl (fun _ _ _=>rfl) (.refl _) ho
 have hmp:0<m.length:=List.length_pos_iff.2 hm0;rcases hcase with⟨hl,rfl,rfl,hfp⟩ | ⟨b,o,c,T,us,fps,rfl,hB,hcap,hfp,hcs,el⟩
 ·have:en.pk.l.length=0:=by rw[hl]; rfl
  omega
 ·have hfl:fps.flatten= []:=zep (fun f hf=>by
   obtain⟨i,hi,rfl⟩:=List.getElem_of_mem hf;have hil:i<en.pk.l.length:=by rw[← el.fl]; exact hi
   obtain⟨f',h1,h2⟩:=el.el i en.pk.l[i] (by simp[hil]);simp[hi]at h1;rw[h1]
   exact(zgw hsc h2).2)
  have hbk:b∈g.fp k:=by rw[hfp]; simp
  have hbs:b<w.heap.size:=(r.mine (.reg k) b ⟨⟨en,hk⟩,hbk⟩).s;have hvl:=he.len;rw[hsz]at hvl hcs hcap;have hul:=el.len;rw[hsz]at hul
  have hfit:o+lo+vs.length≤c.size:=by
   have:en.pk.l.length≤cap:=hlc;omega
  have hrun:=zbx (P:=P) (b:=b) (o:=o+lo) (T:=T) vs 0 w c hB (by simpa using hfit) (Elems.isCells he (by omega));simp only[Nat.add_zero]at hrun;have hBn:hp (World.setBlk w b (zi c (o+lo) vs) T) b=some (.cells (zi c (o+lo) vs) T (0,0)):=zbo hbs;have oth: ∀b',b'≠b→hp (World.setBlk w b (zi c (o+lo) vs) T) b'=hp w b':=fun b' h=>zbp h
  have hz: ∀b',g.Z b'→hp (World.setBlk w b (zi c (o+lo) vs) T) b'=hp w b':=fun b' hz=>oth b' (fun h=>(r.mine (.reg k) b ⟨⟨en,hk⟩,hbk⟩).z (h ▸ hz))
  refine⟨World.setBlk w b (zi c (o+lo) vs) T,?_,.inr ⟨hm0,by omega,b,o,rfl,by rw[hsz,Nat.mul_one]; exact hrun⟩⟩;have e1:=Elems.sub el 0 lo (by omega);have e3:=Elems.sub el (lo+m.length) (en.pk.l.length-(lo+m.length)) (by omega);have e4:=Elems.append (Elems.append e1 he) e3;simp only[List.drop_zero,Nat.zero_mul]at e4;rw[List.take_of_length_le (by simp:(en.pk.l.drop (lo+m.length)).length≤en.pk.l.length-(lo+m.length))]at e4
  have hflat:((fps.take lo++List.replicate m.length [])++((fps.drop (lo+m.length)).take (en.pk.l.length-(lo+m.length)))).flatten= []:=zep (fun f hf=>by
   simp only[List.mem_append]at hf;have hin:f∈fps→f= []:=fun h=>List.eq_nil_of_subset_nil (fun x hx=>by rw[← hfl]; exact List.mem_flatten.2 ⟨f,h,hx⟩)
   rcases hf with(hf | hf) | hf
   ·exact hin (List.mem_of_mem_take hf)
   ·exact(List.mem_replicate.1 hf).2
   ·exact hin (List.mem_of_mem_drop (List.mem_of_mem_take hf)))
  have e5:=e4.keep (h':=hp (World.setBlk w b (zi c (o+lo) vs) T)) (Z':=g.Z) hz (fun _ h=>h) (fun x hx=>by rw[hflat]at hx; simp at hx);have hnl:(en.pk.l.take lo++m++en.pk.l.drop (lo+m.length)).length=en.pk.l.length:=by simp; omega
  have hcs2:zh (hp (World.setBlk w b (zi c (o+lo) vs) T)) b o ((en.pk.l.take lo++m++en.pk.l.drop (lo+m.length)).length*en.pk.t.size) =
    some (us.take (lo*en.pk.t.size)++vs++(us.drop ((lo+m.length)*en.pk.t.size)).take ((en.pk.l.length-(lo+m.length))*en.pk.t.size)):=by
   rw[hnl,hsz];simp only[Nat.mul_one];have hl3:(us.take lo++vs++(us.drop (lo+m.length)).take (en.pk.l.length-(lo+m.length))).length=en.pk.l.length:=by simp; omega
   have:=zap (h:=hp (World.setBlk w b (zi c (o+lo) vs) T)) (b:=b) (us.take lo++vs++(us.drop (lo+m.length)).take (en.pk.l.length-(lo+m.length))) o (fun j hj=>by
    unfold zL;rw[hBn];simp only;rw[zah _ _ _ _ hfit];rw[hl3]at hj
    have hold:c[o+j]? =us[j]? :=by
     have h3:=zab hcs j (by omega);unfold zL at h3;rw[hB]at h3;exact h3.symm
    by_cases h1:j<lo
    ·rw[if_neg (by omega),hold,List.append_assoc,List.getElem?_append_left (by simp; omega),List.getElem?_take,if_pos h1]
    ·by_cases h2:j<lo+m.length
     ·rw[if_pos (by omega),List.getElem?_append_left (by simp; omega),List.getElem?_append_right (by simp; omega)]
      congr 1;simp; omega
     ·rw[if_neg (by omega),hold,List.getElem?_append_right (by simp; omega),List.getElem?_take,if_pos (by simp; omega),List.getElem?_drop]
      congr 1
      simp; omega)
   rw[hl3]at this;exact this
  have hown:=e5.own (cap:=cap) hBn hcs2 (by rw[za3,hsz]; exact hcap) (by omega) (by rw[hnl]; exact hbnd);rw[hflat]at hown;refine r.modReg (l':=en.pk.l.take lo++m++en.pk.l.drop (lo+m.length)) hk zaX (fun b' h1 h2=>oth b' (fun h=>h1 (h ▸ hbk))) (.refl _) ?_;rw[hh,hfp,hfl,hlen];rw[hnl]at hown;exact hown
theorem ziQ {sh:Sh} {h:za} {u:Ty} {c:C} {l:List u.D} {v:Value} (e:zjU u c=some l) (hv:CRel sh g h c v):Rd h (fun b=>g.Z b∨g.R b) (.sl u) l [v]:=by
 cases c<;>simp only[zjU]at e
 case nil=>simp at e; subst e; simp only[CRel]at hv; subst hv; exact zbM
 case fz t l'=>obtain⟨rfl,rfl⟩:=zaE e; exact Rd.keep (fun _ _=>rfl) (fun b hb=> .inl hb) hv
 case br t l'=>obtain⟨rfl,rfl⟩:=zaE e; exact hv
 all_goals simp at e
theorem zd2 {u:Ty} {k lo:Nat} {m:List u.D} (e:zbL s u k lo m=some s'): ∃en,s.sh.regs k=some en∧en.pk.t.scalar=true∧ ∃h:u=en.pk.t,
  s'={ s with sh:={ s.sh with regs:=zg s.sh.regs k (some ⟨{ en.pk with l:=en.pk.l.take lo++(h ▸ m)++en.pk.l.drop (lo+m.length) },en.ver+1⟩) } }:=by
 unfold zbL at e;split at e
 ·rename_i en hen
  cases hsc:en.pk.t.scalar with
  | false=>rw[hsc]at e; simp at e
  | true =>
   rw[hsc]at e; simp only[cond_true]at e;split at e
   ·rename_i m' hm
    simp only[Option.some.injEq]at e; subst e;obtain⟨h,rfl⟩:=zaE hm;refine⟨en,hen,hsc,h,?_⟩;rw[Ty.eq_cast]
   ·simp at e
 ·simp at e
theorem zi7 (r:Rel n0 M h0 s g X a w) (hE:EnvOk P E) {o:Oper} {t t2:TypeId} {x y:Operand} (ho:o.op= .call { callee:= .builtin .copy,args:= #[x,y],argTypes:= #[t,t2] })
  (e:zfF E s o t x y=some (true,s')):Good P n0 M h0 s' o a w:=by
 unfold zfF at e;split at e
 ·rename_i i hti
  split at e
  ·rename_i u hu
   split at e
   ·rename_i cx cy hx hy
    split at e
    ·rename_i k lo hi l hd hs
     split at e
     ·rename_i s1 hp1
      simp only[Option.some.injEq,Prod.mk.injEq,true_and]at e; subst e;obtain⟨hvx,_⟩:=zf r x;rw[hx]at hvx;obtain⟨hvy,_⟩:=zf r y;rw[hy]at hvy;obtain⟨en0,ad,len,cap,hen0,hh,g1,g2,g3,hval⟩:=zfH r hd hvx;obtain⟨en,hen,hsc,hty,rfl⟩:=zd2 hp1;rw[hen0]at hen; simp at hen; subst hen;have hsrc:=ziQ hs hvy;obtain⟨f,h1,h2,hz,hsz,hb⟩:=zck hE hti hu;subst hty;have hnow:zC (en0.pk.a.flat en0.pk.t)=true∨True:= .inr trivial;have hns:=zhx hsc;obtain⟨ad2,cap2,vs2,hv2,hb2,hc2,hcase2,el0⟩:=Rd.elems (a:= .fz) (zkc hsc) hsrc
      have el2:Elems (hp w) g.Z en0.pk.t en0.pk.a l vs2 (List.replicate l.length []):=⟨el0.len,by simp,fun i x hx=>by
       obtain⟨f',q1,q2⟩:=el0.el i x hx;obtain⟨q3,rfl⟩:=zgw hsc q2
       exact⟨[],q1,zcU hns q3⟩⟩
      have el3:=Elems.sub el2 0 (min (hi-lo).toNat l.length) (by omega);simp only[List.drop_zero,Nat.zero_mul]at el3
      have hml:(l.take (hi-lo).toNat)=l.take (min (hi-lo).toNat l.length):=by
       rw[List.take_eq_take_iff]; omega
      have hmlen:(l.take (hi-lo).toNat).length=min (hi-lo).toNat l.length:=by simp
      have hfp3:(List.replicate l.length ([]:List Nat)).take (min (hi-lo).toNat l.length)=List.replicate (l.take (hi-lo).toNat).length []:=by
       rw[List.take_replicate,hmlen]; congr 1; omega
      rw[← hml,hfp3]at el3;obtain⟨w',r',hw'⟩:=zgt (P:=P) r hen0 hsc hh (lo:=lo.toNat) (m:=l.take (hi-lo).toNat) (by rw[hmlen]; omega) el3;have hn:Nat.min l.length (hi-lo).toNat=min (hi-lo).toNat l.length:=Nat.min_comm _ _
      have hfirst:(Builtin.firstCells f.size (Nat.min l.length (hi-lo).toNat) (a.eval y)).run P w= .ok (vs2.take (min (hi-lo).toNat l.length*en0.pk.t.size)).toArray w:=by
       rw[hv2,hn,hsz]
       have:=zda (P:=P) (w:=w) (size:=en0.pk.t.size) (n:=min (hi-lo).toNat l.length) (cap:=cap2) (ad:=ad2) (vs:=vs2.take (min (hi-lo).toNat l.length*en0.pk.t.size)) ⟨by
        have h3:=el3.len;rw[hmlen]at h3; exact h3,by
        rcases hcase2 with rfl | ⟨b2,o2,rfl,_,hcs2⟩
        ·left; simp
        ·right
         refine⟨b2,o2,rfl,?_⟩;have:=zaS hcs2 (off:=0) (n:=min (hi-lo).toNat l.length*en0.pk.t.size) (by rw[Nat.zero_add]; exact Nat.mul_le_mul_right _ (by omega))
         simpa using this⟩ (fun h=>by
        have h3:=el3.len
        rw[h,hmlen]at h3; simpa using h3.symm)
       cases ad2<;>exact this
      refine⟨.value (.int .i64 ((l.take (hi-lo).toNat).length:Int)),w',?_,.inl ⟨.int .i64 ((l.take (hi-lo).toNat).length:Int),rfl,_,X,r'.putO (x:= .int .i64 ((l.take (hi-lo).toNat).length:Int)) (v:= .c (.int .i64 ((l.take (hi-lo).toNat).length:Int))) ⟨rfl,zjw (by
       have h5:l.length≤2^47:=Nat.le_trans (Nat.le_mul_of_pos_right _ (zhw hsc)) hb2
       first | omega | (rw[hmlen]; omega))⟩ (by simp[V.refs,C.refs])⟩⟩
      have hsize:(sizeOf i.el).run P w= .ok f.size w:=zZ h2;have hlen2:(Builtin.lenOf (a.eval y)).run P w= .ok l.length w:=by rw[hv2]; rfl
      have hgoal:(Builtin.copy_ #[t,t2] o.type #[a.eval x,a.eval y]).run P w= .ok (.int .i64 ((l.take (hi-lo).toNat).length:Int)) w':=by
       have hgi:goInt (Nat.min l.length (hi-lo).toNat)= .int .i64 ((l.take (hi-lo).toNat).length:Int):=by rw[hn,hmlen]; rfl
       rw[hval];rcases hw' with⟨hm0,rfl⟩ | ⟨hm0,hlt,b,o',rfl,hst⟩
       ·have hn0:min (hi-lo).toNat l.length=0:=by rw[← hmlen,hm0]; rfl
        rw[hn0]at hfirst;simp only[Nat.zero_mul,List.take_zero]at hfirst;have hst0: ∀ad:Addr,(storeCells ad ([]:List Value)).run P w'= .ok () w':=fun ad=>by simp[storeCells]
        simp only[Builtin.copy_,List.getElem?_toArray,List.getElem?_cons_zero,List.getElem?_cons_succ,Sem.run_bind,zG h1,Result.andThen_ok,hlen2,hsize,hfirst];cases ad with
        | none=>simp[hgi]
        | some ad0=>split<;>simp[hst0,hgi]
       ·have hne: ¬cap=lo.toNat:=by omega
        simp only[Builtin.copy_,List.getElem?_toArray,List.getElem?_cons_zero,List.getElem?_cons_succ,Sem.run_bind,zG h1,Result.andThen_ok,hlen2,hsize,hfirst,if_neg hne,Option.map_some,zaO];have hst2:(storeCells ⟨b,o'+lo.toNat*en0.pk.t.size,none⟩ ((vs2.take (min (hi-lo).toNat l.length*en0.pk.t.size)).toArray).toList).run P w= .ok () w':=by simpa using hst
        simp[hst2,hgi]
      simp[execOp,ho,resolve,invoke,builtin,hgoal]
     ·simp at e
    ·simp at e
   ·simp at e
  ·simp at e
 ·simp at e
theorem zgD (z:Value) (n:Nat):(Builtin.zeroCells #[z] n).toList=List.replicate n z:=by
 unfold Builtin.zeroCells;apply List.ext_getElem?;intro j;simp only[List.size_toArray,List.length_cons,List.length_nil,Nat.zero_add,Nat.mul_one,Array.toList_map,Array.toList_range,List.getElem?_map];by_cases hj:j<n
 ·rw[List.getElem?_range hj,List.getElem?_replicate,if_pos hj]
  simp[Nat.mod_one]
 ·rw[List.getElem?_eq_none (by simp; omega),List.getElem?_replicate,if_neg hj]
  rfl
theorem ziz (r:Rel n0 M h0 s g X a w) (hE:EnvOk P E) {o:Oper} {t:TypeId} {x:Operand} (ho:o.op= .call { callee:= .builtin .clear,args:= #[x],argTypes:= #[t] })
  (e:zek E s o t x=some (true,s')):Good P n0 M h0 s' o a w:=by
 unfold zek at e;split at e
 ·rename_i i hti
  split at e
  ·rename_i u hu
   split at e
   ·rename_i cx hx
    split at e
    ·rename_i k lo hi hd
     split at e
     ·rename_i s1 hp1
      simp only[Option.some.injEq,Prod.mk.injEq,true_and]at e; subst e;obtain⟨hvx,_⟩:=zf r x;rw[hx]at hvx;obtain⟨en0,ad,len,cap,hen0,hh,g1,g2,g3,hval⟩:=zfH r hd hvx;obtain⟨en,hen,hsc,hty,rfl⟩:=zd2 hp1;rw[hen0]at hen; simp at hen; subst hen;subst hty;obtain⟨f,h1,h2,hz,hsz,hb⟩:=zck hE hti hu;have hsz1:en0.pk.t.size=1:=(by cases ht:en0.pk.t<;>rw[ht]at hsc<;>simp[Ty.scalar]at hsc<;>rfl);have hel:=zb3 (h:=hp w) (Z:=g.Z) (zav en0.pk.t) (zcj en0.pk.t en0.pk.a) (hi-lo).toNat
      have hel2:Elems (hp w) g.Z en0.pk.t en0.pk.a (List.replicate (hi-lo).toNat en0.pk.t.dflt) (List.replicate (hi-lo).toNat (zN en0.pk.t)).flatten (List.replicate (List.replicate (hi-lo).toNat en0.pk.t.dflt).length []):=by
       rw[List.length_replicate]; exact hel
      obtain⟨w',r',hw'⟩:=zgt (P:=P) r hen0 hsc hh (lo:=lo.toNat) (m:=List.replicate (hi-lo).toNat en0.pk.t.dflt) (by rw[List.length_replicate]; omega) hel2
      have hzc:(zA en0.pk.t).cells= #[zA en0.pk.t]∧zN en0.pk.t= [zA en0.pk.t]:=by
       cases ht:en0.pk.t<;>rw[ht]at hsc<;>simp[Ty.scalar]at hsc<;>exact⟨rfl,rfl⟩
      have hflat:(List.replicate (hi-lo).toNat (zN en0.pk.t)).flatten=List.replicate (hi-lo).toNat (zA en0.pk.t):=by
       rw[hzc.2];generalize (hi-lo).toNat=n
       induction n with
       | zero=>rfl
       | succ n ih=>simp[List.replicate_succ,ih]
      refine⟨.value (.tuple #[]),w',?_,.inl ⟨_,rfl,_,X,r'.putO (v:= .junk) trivial (by simp[V.refs])⟩⟩
      have hgoal:(Builtin.clear_ #[t] o.type #[a.eval x]).run P w= .ok (.tuple #[]) w':=by
       rw[hval];rcases hw' with⟨hm0,rfl⟩ | ⟨hm0,hlt,b,o',rfl,hst⟩
       ·have hn0:(hi-lo).toNat=0:=by
         have:=congrArg List.length hm0;simpa using this
        rw[hn0];simp only[Builtin.clear_,List.getElem?_toArray,List.getElem?_cons_zero,Sem.run_bind,zG h1,Result.andThen_ok];cases ad with
        | none=>simp
        | some ad0=>by_cases hcc:cap=lo.toNat<;>simp[hcc]
       ·have hne: ¬cap=lo.toNat:=by omega
        have hn0:(hi-lo).toNat≠0:=fun h=>hm0 (by rw[h]; rfl)
        obtain⟨n,hn⟩:=Nat.exists_eq_succ_of_ne_zero hn0;rw[hflat,hn,← zgD]at hst;rw[hn];simp only[Builtin.clear_,List.getElem?_toArray,List.getElem?_cons_zero,Sem.run_bind,zG h1,Result.andThen_ok,if_neg hne,Option.map_some,zaO,zdb h2 hz,hzc.1,hst,Sem.run_pure]
      simp[execOp,ho,resolve,invoke,builtin,hgoal]
     ·simp at e
    ·simp at e
   ·simp at e
  ·simp at e
 ·simp at e
end
def zeo (E:Env) (s:St) (o:Oper) (t:Nat) (x:Operand) (f:Nat):Option (Bool×St) :=
 match E.TT t with
 | some i=>match i.ty with
  | .st _ _=>match i.fs[f]? with
   | some (fo,_,_)=>match ze s x with
    | .c c=>bif zaW s.sh c then(match zat fo c with
     | some c'=>some (true,s.putO o.dst (.c c'))
     | none=>none)else none
    | _=>none
   | none=>none
  | _=>none
 | none=>none
def zdq (E:Env) (s:St) (o:Oper) (t:Nat) (x:Operand) (f:Nat):Option (Bool×St) :=
 match E.TT t with
 | some i=>match i.ty with
  | .st _ _=>match i.fs[f]? with
   | some (fo,n,ag)=>match ze s x with
    | .agg cs=>bif Nat.ble (fo+n) cs.length&&(ag||Nat.beq n 1)then some (true,s.putO o.dst (zv ag ((cs.drop fo).take n)))else none
    | _=>none
   | none=>none
  | _=>none
 | none=>none
def zet (E:Env) (s:St) (o:Oper) (t:Nat) (x y:Operand):Option (Bool×St) :=
 match E.TT t with
 | some i=>match i.ty with
  | .sl u=>match ze s x,ze s y with
   | .c c,.c (.int _ n)=>match zac s.sh c n with
    | some (ok,sz,c')=>bif Nat.beq sz u.size then some (ok,s.putO o.dst (.c c'))else none
    | none=>none
   | _,_=>none
  | _=>none
 | none=>none
def zfN (E:Env) (s:St) (o:Oper) (t:Nat) (x:Operand):Option (Bool×St) :=
 match E.TT t with
 | some i=>match ze s x with
  | .c c=>match zam s.sh i.ty.size c with
   | some cs=>bif Nat.beq cs.length i.ty.size then some (true,s.putO o.dst (zv i.ty.isSt cs))else none
   | none=>none
  | _=>none
 | none=>none
def zeJ (E:Env) (s:St) (o:Oper) (t:Nat) (x y:Operand):Option (Bool×St) :=
 match E.TT t with
 | some i=>match ze s x,zas (ze s y)with
  | .c c,some ds=>bif Nat.beq ds.length i.ty.size then(match zX s c ds with
   | some s'=>some (true,s'.putO o.dst .junk)
   | none=>none)else none
  | _,_=>none
 | none=>none
def zei (E:Env) (s:St) (o:Oper) (t:Nat) (ps:List (Nat×Operand)):Option (Bool×St) :=
 match E.TT t with
 | some i=>match i.ty with
  | .st _ _=>match zcp s i.fs ps (zaG i.ty)with
   | some cs=>some (true,s.putO o.dst (.agg cs))
   | none=>none
  | _=>none
 | none=>none
def zbD (E:Env) (site:Nat) (s:St) (o:Oper) (t n:Nat) (ps:List (Nat×Operand)):Option (Bool×St) :=
 match E.TT t with
 | some i=>match i.ty with
  | .sl u=>bif Nat.blt 0 u.size&&Nat.beq ps.length n&&Nat.ble (n*u.size) 16777216&&Nat.ble (n*u.bytes) 140737488355328 then
    (match zcO s u ((E.an site).getD (zbh u)) 0 ps s.sh with
    | some (l,sh)=>match zV { s with sh } site ⟨u,(E.an site).getD (zbh u),l⟩with
     | some s'=>some (true,s'.putO o.dst (.c (.at site)))
     | none=>none
    | none=>none)else none
  | _=>none
 | none=>none
def zfO (E:Env) (site:Nat) (s:St) (o:Oper) (t:Nat) (x y:Operand):Option (Bool×St) :=
 match E.TT t with
 | some i=>match i.ty with
  | .sl u=>bif Nat.blt 0 u.size&&Nat.blt 0 u.bytes&&zcW x y then
    (match ze s x with
    | .c (.int _ n)=>match zV s site ⟨u,(E.an site).getD (zbh u),List.replicate n.toNat u.dflt⟩with
     | some s'=>some (decide (0≤n)&&decide (n*u.bytes≤140737488355328),s'.putO o.dst (.c (.at site)))
     | none=>none
    | _=>none)else none
  | _=>none
 | none=>none
def zct (s:St) (d:Int):Option Operand→Option Int
 | none=>some d
 | some y=>match ze s y with
  | .c (.int _ n)=>some n
  | _=>none
def zcg (sh:Sh):C→Nat
 | .fz t _=>t.size
 | .br t _=>t.size
 | .at k=>match sh.regs k with
  | some e=>e.pk.t.size
  | none=>0
 | _=>0
def zgV (E:Env) (s:St) (o:Oper) (t:Nat) (x:Operand) (lo hi:Option Operand):Option (Bool×St) :=
 match E.TT t with
 | some i=>match i.ty with
  | .sl u=>match ze s x with
   | .c c=>match zai s.sh c with
    | some n=>match zct s 0 lo,zct s n hi with
     | some l,some h=>bif Nat.beq (zcg s.sh c) u.size then(match zdc s.sh c l h with
      | some (ok,c')=>some (ok,s.putO o.dst (.c c'))
      | none=>none)else none
     | _,_=>none
    | none=>none
   | _=>none
  | _=>none
 | none=>none
def zgP (E:Env) (s:St) (o:Oper) (op:BinOp) (t:Nat) (x y:Operand):Option (Bool×St) :=
 match ze s x,ze s y with
 | .c (.int k m),.c (.int j n)=>match zii op (.int k m) (.int j n)with
  | some (ok,c)=>some (ok,s.putO o.dst (.c c))
  | none=>none
 | .c (.bool b),.c (.bool d)=>match E.TT t with
  | some i=>match i.ty,op with
   | .bool,.eql=>some (true,s.putO o.dst (.c (.bool (b==d))))
   | .bool,.neq=>some (true,s.putO o.dst (.c (.bool (!(b==d)))))
   | _,_=>none
  | none=>none
 | .agg cs,.agg ds=>match E.TT t with
  | some i=>bif i.eqs then(match eqT i.ty.leaves cs ds,op with
   | some b,.eql=>some (true,s.putO o.dst (.c (.bool b)))
   | some b,.neq=>some (true,s.putO o.dst (.c (.bool (!b))))
   | _,_=>none)else none
  | none=>none
 | _,_=>none
def unT (s:St) (o:Oper) (op:UnOp) (x:Operand):Option (Bool×St) :=
 match op,ze s x with
 | .not,.c (.bool b)=>some (true,s.putO o.dst (.c (.bool (!b))))
 | .neg,.c (.int k n)=>some (true,s.putO o.dst (.c (.int k (k.wrap (0-n)))))
 | _,_=>none
def zfE (E:Env) (s:St) (o:Oper) (t u:Nat) (x:Operand):Option (Bool×St) :=
 match E.TT t,E.TT u with
 | some it,some iu=>match it.ty,iu.ty,ze s x with
  | .int _,.int j,.c (.int _ n)=>some (true,s.putO o.dst (.c (.int j (j.wrap n))))
  | _,_,_=>none
 | _,_=>none
def za4 (sh:Sh):C→Nat
 | .nil=>1
 | .fz t _=>t.bytes
 | .br t _=>t.bytes
 | .at k=>match sh.regs k with
  | some e=>e.pk.t.bytes
  | none=>0
 | .nd _ _ _ q=>q.t.bytes
 | .vw k _ _ _=>match sh.regs k with
  | some e=>e.pk.t.bytes
  | none=>0
 | _=>0
def zhh (E:Env) (s:St) (o:Oper) (t:Nat) (x:Operand):Option (Bool×St) :=
 match E.TT t with
 | some i=>match i.ty with
  | .sl _=>match ze s x with
   | .c c=>match zai s.sh c with
    | some n=>bif Nat.blt 0 (za4 s.sh c)then some (true,s.putO o.dst (.c (.int .i64 n)))else none
    | none=>none
   | _=>none
  | _=>none
 | none=>none
def zbW (s:St) (o:Oper) (b:Builtin) (x y:Operand):Option (Bool×St) :=
 match ze s x,ze s y with
 | .c (.int k m),.c (.int j n)=>match zb5 k j with
  | some _=>match b with
   | .max=>some (true,s.putO o.dst (.c (.int k (bif decide (n>m)then n else m))))
   | .min=>some (true,s.putO o.dst (.c (.int k (bif decide (n<m)then n else m))))
   | _=>none
  | none=>none
 | _,_=>none
def zf6 (E:Env) (site:Nat) (s:St) (o:Oper) (t:Nat) (x y:Operand):Option (Bool×St) :=
 match E.TT t with
 | some i=>match i.ty with
  | .sl u=>bif Nat.beq o.type t&&Nat.blt 0 u.size&&Nat.blt 0 u.bytes then
    (match ze s x,ze s y with
    | .c cx,.c cy=>match zaL E s site u cx cy with
     | some (ok,s')=>some (ok,s'.putO o.dst (.c (.at site)))
     | none=>none
    | _,_=>none)else none
  | _=>none
 | none=>none
def zce (E:Env) (site:Nat) (s:St) (o:Oper) (b:Builtin) (args:List Operand) (ts:List Nat):Option (Bool×St) :=
 match b,args,ts with
 | .len,[x],[t]=>zhh E s o t x
 | .append,[x,y],[t,u]=>bif Nat.beq t u then zf6 E site s o t x y else none
 | .max,[x,y],_=>zbW s o .max x y
 | .min,[x,y],_=>zbW s o .min x y
 | .copy,[x,y],[t,_]=>zfF E s o t x y
 | .clear,[x],[t]=>zek E s o t x
 | _,_,_=>none
def zaI (E:Env) (site:Nat) (s:St) (o:Oper):Option (Bool×St) :=
 match o.op with
 | .move x=>some (true,s.putO o.dst (ze s x))
 | .assign x=>some (true,s.putO o.dst (ze s x))
 | .pick c x y=>match ze s c with
  | .c (.bool b)=>some (true,s.putO o.dst (zfT b (ze s x) (ze s y)))
  | _=>none
 | .nilCheck x=>match ze s x with
  | .c (.ptr k off)=>match s.sh.boxes k with
   | some _=>some (true,s.putO o.dst (.c (.ptr k off)))
   | none=>none
  | _=>none
 | .box _ x=>match zas (ze s x)with
  | some cs=>match zQ s site cs with
   | some s'=>some (true,s'.putO o.dst (.c (.ptr site 0)))
   | none=>none
  | none=>none
 | .alloc t=>match E.TT t with
  | some i=>match zQ s site (zaG i.ty)with
   | some s'=>some (true,s'.putO o.dst (.c (.ptr site 0)))
   | none=>none
  | none=>none
 | .load t x=>zfN E s o t x
 | .store t x y=>zeJ E s o t x y
 | .fieldAddr t x f=>zeo E s o t x f
 | .indexAddr t x y=>zet E s o t x y
 | .field t x f=>zdq E s o t x f
 | .build t ps=>zei E s o t ps.toList
 | .buildSlice t n ps=>zbD E site s o t n ps.toList
 | .makeSlice t x y=>zfO E site s o t x y
 | .slice t x lo hi none=>zgV E s o t x lo hi
 | .binOp op t x y _=>zgP E s o op t x y
 | .unOp op _ x=>unT s o op x
 | .convert t u x=>zfE E s o t u x
 | .extract x j=>match ze s x with
  | .tup ps=>match ps[j]? with
   | some (ag,cs)=>some (true,s.putO o.dst (zv ag cs))
   | none=>none
  | _=>none
 | .makeFunc (.func f) first cap=>match first.toList,zcx (cap.toList.map (ze s))with
  | [],some ps=>some (true,s.putO o.dst (.c (.fn f ps)))
  | _,_=>none
 | .call c=>match c.callee with
  | .builtin b=>zce E site s o b c.args.toList c.argTypes.toList
  | _=>none
 | _=>none
section
variable {P:Program} {E:Env} {n0:Nat} {M:Nat→Prop} {h0:Home} {s:St} {g:Gh} {X:List Nat} {a:Act} {w:World}
theorem zcd {n:Nat} (h:n≤140737488355328):zaw .i64 (n:Int):=by
 constructor
 ·show(-9223372036854775808:Int)≤n; omega
 ·show(n:Int)≤9223372036854775807; omega
theorem zeu {n b:Nat} (hb:0<b) (h:n*b≤140737488355328):n≤140737488355328 :=Nat.le_trans (Nat.le_mul_of_pos_right n hb) h
theorem zjd (r:Rel n0 M h0 s g X a w) {c:C} {n:Int} (e:zai s.sh c=some n) (hb:0<za4 s.sh c) {v:Value} (hv:CRel s.sh g (hp w) c v):zaw .i64 n:=by
 cases c<;>simp only[zai,za4]at e hb
 case nil=>simp at e; subst e; exact zcd (n:=0) (by omega)
 case fz t l=>simp at e; subst e; obtain⟨a,cap,_,h,_⟩:=hv; exact zcd (zeu hb h)
 case br t l=>simp at e; subst e; obtain⟨a,cap,_,h,_⟩:=hv; exact zcd (zeu hb h)
 case «at» k =>
  split at e
  ·rename_i en he
   rw[he]at hb;simp at e; subst e;obtain⟨hd,cap,_,h,_⟩:=r.rg k en he;exact zcd (zeu hb h)
  ·simp at e
 case vw k ver lo hi =>
  split at e
  ·rename_i en he
   rw[he]at hb;cases hbq:Nat.beq en.ver ver with
   | true =>
    rw[hbq]at e; simp at e; subst e;obtain⟨hd,cap,_,h,_⟩:=r.rg k en he;obtain⟨h1,h2,h3,_⟩:=(hv.2 en he).2 (Nat.eq_of_beq_eq_true hbq);have:=zeu hb h;have h4:((hi-lo).toNat:Int)=hi-lo:=by omega
    rw[← h4];exact zcd (by omega)
   | false=>rw[hbq]at e; simp at e
  ·simp at e
 case nd k ver p q =>
  split at e
  ·rename_i en he
   cases hbq:Nat.beq en.ver ver with
   | true =>
    rw[hbq]at e; simp at e; subst e;obtain⟨fq,_,hd,cap,_,h,_⟩:=zcT (r.rg k en he) ((hv.2 en he).2 (Nat.eq_of_beq_eq_true hbq));exact zcd (zeu hb h)
   | false=>rw[hbq]at e; simp at e
  ·simp at e
 all_goals simp at e
theorem ziw {k:IntKind} {n:Int} (h:zaw k n):zdO k n=true:=by
 unfold zdO;simp[h.1,h.2]
theorem zeX {s:St} {d n:Int} {lo:Option Operand} (e:zct s d lo=some n):(lo=none∧n=d)∨ ∃y k,lo=some y∧ze s y= .c (.int k n):=by
 cases lo with
 | none=>simp[zct]at e; exact .inl ⟨rfl,e.symm⟩
 | some y =>
  simp only[zct]at e;split at e
  ·rename_i k m h; simp at e; subst e; exact .inr ⟨y,k,rfl,h⟩
  ·simp at e
end
section
variable {P:Program} {E:Env} {n0:Nat} {M:Nat→Prop} {h0:Home} {s s':St} {g:Gh} {X:List Nat} {a:Act} {w:World} {o:Oper}
theorem zg7 (r:Rel n0 M h0 s g X a w) (hE:EnvOk P E) {t:Nat} {x:Operand} {f:Nat} (ho:o.op= .fieldAddr t x f) (e:zeo E s o t x f=some (true,s')):Good P n0 M h0 s' o a w:=by
 unfold zeo at e;split at e
 ·rename_i i ht
  split at e
  ·rename_i n ty hst
   split at e
   ·rename_i fo fs fa hf
    split at e
    ·rename_i c hx
     cases hl:zaW s.sh c with
     | true =>
      rw[hl]at e; simp only[cond_true]at e;split at e
      ·rename_i c' hc
       simp at e; subst e;have hv:=(zf r x).1;rw[hx]at hv;exact ziA r hE ho ht hst hf hx hc (zga r hv hl)
      ·simp at e
     | false=>rw[hl]at e; simp at e
    ·simp at e
   ·simp at e
  ·simp at e
 ·simp at e
theorem zgB (r:Rel n0 M h0 s g X a w) (hE:EnvOk P E) {t:Nat} {x:Operand} {f:Nat} (ho:o.op= .field t x f) (e:zdq E s o t x f=some (true,s')):Good P n0 M h0 s' o a w:=by
 unfold zdq at e;split at e
 ·rename_i i ht
  split at e
  ·rename_i n ty hst
   split at e
   ·rename_i fo fs fa hf
    split at e
    ·rename_i cs hx
     cases hl:(Nat.ble (fo+fs) cs.length&&(fa||Nat.beq fs 1))with
     | true =>
      rw[hl]at e;simp only[cond_true,Option.some.injEq,Prod.mk.injEq,true_and]at e;subst e;simp only[Bool.and_eq_true,Bool.or_eq_true]at hl
      exact zja r hE ho ht hst hf hx (Nat.le_of_ble_eq_true hl.1) (fun h=>by
       rcases hl.2 with h2 | h2
       ·rw[h]at h2; cases h2
       ·exact Nat.eq_of_beq_eq_true h2)
     | false=>rw[hl]at e; simp at e
    ·simp at e
   ·simp at e
  ·simp at e
 ·simp at e
theorem zhd (r:Rel n0 M h0 s g X a w) (hE:EnvOk P E) {t:Nat} {x y:Operand} (ho:o.op= .indexAddr t x y) (e:zet E s o t x y=some (true,s')):Good P n0 M h0 s' o a w:=by
 unfold zet at e;split at e
 ·rename_i i ht
  split at e
  ·rename_i u hu
   split at e
   ·rename_i c k n hx hy
    split at e
    ·rename_i ok sz c' hi
     cases hb:Nat.beq sz u.size with
     | true =>
      rw[hb]at e; simp at e;obtain⟨rfl,rfl⟩:=e;have:=Nat.eq_of_beq_eq_true hb; subst this;exact ziB r hE ho ht hu hx hy hi
     | false=>rw[hb]at e; simp at e
    ·simp at e
   ·simp at e
  ·simp at e
 ·simp at e
theorem zhT (r:Rel n0 M h0 s g X a w) (hE:EnvOk P E) {t:Nat} {x:Operand} (ho:o.op= .load t x) (e:zfN E s o t x=some (true,s')):Good P n0 M h0 s' o a w:=by
 unfold zfN at e;split at e
 ·rename_i i ht
  split at e
  ·rename_i c hx
   split at e
   ·rename_i cs hl
    cases hb:Nat.beq cs.length i.ty.size with
    | true =>
     rw[hb]at e; simp at e; subst e;exact zi9 r hE ho ht hx hl (Nat.eq_of_beq_eq_true hb)
    | false=>rw[hb]at e; simp at e
   ·simp at e
  ·simp at e
 ·simp at e
theorem zhB (r:Rel n0 M h0 s g X a w) (hE:EnvOk P E) {t:Nat} {x y:Operand} (ho:o.op= .store t x y) (e:zeJ E s o t x y=some (true,s')):Good P n0 M h0 s' o a w:=by
 unfold zeJ at e;split at e
 ·rename_i i ht
  split at e
  ·rename_i c ds hx hy
   cases hb:Nat.beq ds.length i.ty.size with
   | true =>
    rw[hb]at e; simp only[cond_true]at e;split at e
    ·rename_i s2 hs
     simp at e; subst e;exact ziC r hE ho ht hx hy (Nat.eq_of_beq_eq_true hb) hs
    ·simp at e
   | false=>rw[hb]at e; simp at e
  ·simp at e
 ·simp at e
theorem zgQ (r:Rel n0 M h0 s g X a w) (hE:EnvOk P E) {t:Nat} {ps:Array (Nat×Operand)} (ho:o.op= .build t ps) (e:zei E s o t ps.toList=some (true,s')):Good P n0 M h0 s' o a w:=by
 unfold zei at e;split at e
 ·rename_i i ht
  split at e
  ·rename_i n ty hst
   split at e
   ·rename_i cs hc
    simp at e; subst e;exact ziy r hE ho ht hst hc
   ·simp at e
  ·simp at e
 ·simp at e
theorem zeW (r:Rel n0 M h0 s g X a w) (hE:EnvOk P E) {site:Nat} {t n:Nat} {ps:Array (Nat×Operand)} (ho:o.op= .buildSlice t n ps)
  (e:zbD E site s o t n ps.toList=some (true,s')):Good P n0 M h0 s' o a w:=by
 unfold zbD at e;split at e
 ·rename_i i ht
  split at e
  ·rename_i u hu
   cases hb:(Nat.blt 0 u.size&&Nat.beq ps.toList.length n&&Nat.ble (n*u.size) 16777216&&Nat.ble (n*u.bytes) 140737488355328)with
   | true =>
    rw[hb]at e; simp only[cond_true]at e;simp only[Bool.and_eq_true]at hb;split at e
    ·rename_i l sh hl
     split at e
     ·rename_i s2 hs
      simp at e; subst e;exact zjJ r hE ho ht hu (Nat.le_of_ble_eq_true hb.1.1.1) (Nat.eq_of_beq_eq_true hb.1.1.2) (Nat.le_of_ble_eq_true hb.1.2) (Nat.le_of_ble_eq_true hb.2) hl hs
     ·simp at e
    ·simp at e
   | false=>rw[hb]at e; simp at e
  ·simp at e
 ·simp at e
theorem zhV (r:Rel n0 M h0 s g X a w) (hE:EnvOk P E) {site:Nat} {t:Nat} {x y:Operand} (ho:o.op= .makeSlice t x y)
  (e:zfO E site s o t x y=some (true,s')):Good P n0 M h0 s' o a w:=by
 unfold zfO at e;split at e
 ·rename_i i ht
  split at e
  ·rename_i u hu
   cases hb:(Nat.blt 0 u.size&&Nat.blt 0 u.bytes&&zcW x y)with
   | true =>
    rw[hb]at e; simp only[cond_true]at e;simp only[Bool.and_eq_true]at hb;split at e
    ·rename_i k n hx
     split at e
     ·rename_i s2 hs
      simp only[Option.some.injEq,Prod.mk.injEq,Bool.and_eq_true,decide_eq_true_eq]at e;obtain⟨⟨h1,h2⟩,rfl⟩:=e;exact zf9 r hE ho ht hu (Nat.le_of_ble_eq_true hb.1.1) (Nat.le_of_ble_eq_true hb.1.2) hx hb.2 h1 h2 hs
     ·simp at e
    ·simp at e
   | false=>rw[hb]at e; simp at e
  ·simp at e
 ·simp at e
theorem zir (r:Rel n0 M h0 s g X a w) (hE:EnvOk P E) {t:Nat} {x:Operand} {lo hi:Option Operand} (ho:o.op= .slice t x lo hi none)
  (e:zgV E s o t x lo hi=some (true,s')):Good P n0 M h0 s' o a w:=by
 unfold zgV at e;split at e
 ·rename_i i ht
  split at e
  ·rename_i u hu
   split at e
   ·rename_i c hx
    split at e
    ·rename_i n hn
     split at e
     ·rename_i l h hl hh
      cases hb:Nat.beq (zcg s.sh c) u.size with
      | true =>
       rw[hb]at e; simp only[cond_true]at e;split at e
       ·rename_i ok c' hc
        simp at e; obtain⟨rfl,rfl⟩:=e;refine zjH r hE ho ht hu hx hn (zeX hl) (zeX hh) hc ?_;have:=Nat.eq_of_beq_eq_true hb;rw[← this];cases c<;>rfl
       ·simp at e
      | false=>rw[hb]at e; simp at e
     ·simp at e
    ·simp at e
   ·simp at e
  ·simp at e
 ·simp at e
theorem zij (r:Rel n0 M h0 s g X a w) (hE:EnvOk P E) {op:BinOp} {t u:Nat} {x y:Operand} (ho:o.op= .binOp op t x y u)
  (e:zgP E s o op t x y=some (true,s')):Good P n0 M h0 s' o a w:=by
 unfold zgP at e;split at e
 ·rename_i k m j n hx hy
  split at e
  ·rename_i ok c hc
   simp at e; obtain⟨rfl,rfl⟩:=e;exact zhR r ho hx hy hc
  ·simp at e
 ·rename_i b d hx hy
  split at e
  ·rename_i i ht
   split at e
   ·rename_i hi
    simp at e; subst e;exact(zer r hE ho ht hi hx hy).1 rfl
   ·rename_i hi
    simp at e; subst e;exact(zer r hE ho ht hi hx hy).2 rfl
   ·simp at e
  ·simp at e
 ·rename_i cs ds hx hy
  split at e
  ·rename_i i ht
   cases hq:i.eqs with
   | false=>rw[hq]at e; simp at e
   | true =>
    rw[hq]at e; simp only[cond_true]at e;split at e
    ·rename_i b hb
     simp at e; subst e;exact(ze5 r hE ho ht hq hx hy hb).1 rfl
    ·rename_i b hb
     simp at e; subst e;exact(ze5 r hE ho ht hq hx hy hb).2 rfl
    ·simp at e
  ·simp at e
 ·simp at e
theorem zjv (r:Rel n0 M h0 s g X a w) {op:UnOp} {t:Nat} {x:Operand} (ho:o.op= .unOp op t x) (e:unT s o op x=some (true,s')):Good P n0 M h0 s' o a w:=by
 unfold unT at e;split at e
 ·rename_i b hx; simp at e; subst e; exact zjL r ho hx
 ·rename_i k n hx; simp only[Option.some.injEq,Prod.mk.injEq,true_and]at e; subst e; exact zjK r ho hx
 ·simp at e
theorem zhN (r:Rel n0 M h0 s g X a w) (hE:EnvOk P E) {t u:Nat} {x:Operand} (ho:o.op= .convert t u x) (e:zfE E s o t u x=some (true,s')):Good P n0 M h0 s' o a w:=by
 unfold zfE at e;split at e
 ·rename_i it iu ht hu
  split at e
  ·rename_i k j j' n h1 h2 hx
   simp at e; subst e;exact zha r hE ho ht h1 hu h2 hx
  ·simp at e
 ·simp at e
theorem ziG (r:Rel n0 M h0 s g X a w) (hE:EnvOk P E) {t:Nat} {x:Operand} (ho:o.op= .call { callee:= .builtin .len,args:= #[x],argTypes:= #[t] })
  (e:zhh E s o t x=some (true,s')):Good P n0 M h0 s' o a w:=by
 unfold zhh at e;split at e
 ·rename_i i ht
  split at e
  ·rename_i u hu
   split at e
   ·rename_i c hx
    split at e
    ·rename_i n hn
     cases hb:Nat.blt 0 (za4 s.sh c)with
     | true =>
      rw[hb]at e; simp at e; subst e;have hv:=(zf r x).1;rw[hx]at hv;exact zjI r hE ho ht hu hx hn (ziw (zjd r hn (Nat.le_of_ble_eq_true hb) hv))
     | false=>rw[hb]at e; simp at e
    ·simp at e
   ·simp at e
  ·simp at e
 ·simp at e
theorem zea (r:Rel n0 M h0 s g X a w) {b:Builtin} {x y:Operand} {ts:Array TypeId} (ho:o.op= .call { callee:= .builtin b,args:= #[x,y],argTypes:=ts })
  (e:zbW s o b x y=some (true,s')):Good P n0 M h0 s' o a w:=by
 unfold zbW at e;split at e
 ·rename_i k m j n hx hy
  split at e
  ·rename_i pe hk
   obtain⟨rfl⟩:=pe;split at e
   ·simp at e; subst e
    have:=(ze6 (P:=P) r ho hx hy).1 rfl;by_cases h:n>m
    ·rw[if_pos h]at this; simpa [h]using this
    ·rw[if_neg h]at this; simpa [h]using this
   ·simp at e; subst e
    have:=(ze6 (P:=P) r ho hx hy).2 rfl;by_cases h:n<m
    ·rw[if_pos h]at this; simpa [h]using this
    ·rw[if_neg h]at this; simpa [h]using this
   ·simp at e
  ·simp at e
 ·simp at e
theorem zih (r:Rel n0 M h0 s g X a w) (hE:EnvOk P E) {site:Nat} {t:Nat} {x y:Operand} (ho:o.op= .call { callee:= .builtin .append,args:= #[x,y],argTypes:= #[t,t] })
  (e:zf6 E site s o t x y=some (true,s')):Good P n0 M h0 s' o a w:=by
 unfold zf6 at e;split at e
 ·rename_i i ht
  split at e
  ·rename_i u hu
   cases hb:(Nat.beq o.type t&&Nat.blt 0 u.size&&Nat.blt 0 u.bytes)with
   | true =>
    rw[hb]at e; simp only[cond_true]at e;simp only[Bool.and_eq_true]at hb;split at e
    ·rename_i cx cy hx hy
     split at e
     ·rename_i ok s2 hs
      simp at e; obtain⟨rfl,rfl⟩:=e;exact zhQ r hE ho (Nat.eq_of_beq_eq_true hb.1.1) ht hu (Nat.le_of_ble_eq_true hb.1.2) (Nat.le_of_ble_eq_true hb.2) hx hy hs
     ·simp at e
    ·simp at e
   | false=>rw[hb]at e; simp at e
  ·simp at e
 ·simp at e
theorem zz {α:Type} {x:Array α} {l:List α} (h:x.toList=l):x=l.toArray:=by subst h; simp
theorem zf8 (r:Rel n0 M h0 s g X a w) (hE:EnvOk P E) {site:Nat} {c:Call} {b:Builtin} (ho:o.op= .call c) (hc:c.callee= .builtin b)
  (e:zce E site s o b c.args.toList c.argTypes.toList=some (true,s')):Good P n0 M h0 s' o a w:=by
 obtain⟨callee,args,ts⟩:=c;simp only at hc; subst hc;unfold zce at e;split at e
 ·rename_i x t h1 h2
  simp only at h1 h2;rw[zz h1,zz h2]at ho;exact ziG r hE ho e
 ·rename_i x y t u h1 h2
  simp only at h1 h2;cases hb:Nat.beq t u with
  | true =>
   rw[hb]at e;have:=Nat.eq_of_beq_eq_true hb; subst this;rw[zz h1,zz h2]at ho;exact zih r hE ho e
  | false=>rw[hb]at e; simp at e
 ·rename_i x y h1
  simp only at h1;rw[zz h1]at ho;exact zea r ho e
 ·rename_i x y h1
  simp only at h1;rw[zz h1]at ho;exact zea r ho e
 ·rename_i x y t t2 h1 h2
  simp only at h1 h2;rw[zz h1,zz h2]at ho;exact zi7 r hE ho e
 ·rename_i x t h1 h2
  simp only at h1 h2;rw[zz h1,zz h2]at ho;exact ziz r hE ho e
 ·simp at e
theorem zh2 (r:Rel n0 M h0 s g X a w) (hE:EnvOk P E) {site:Nat} (e:zaI E site s o=some (true,s')):Good P n0 M h0 s' o a w:=by
 unfold zaI at e;split at e
 ·rename_i x ho; simp at e; subst e; exact zgo r (.inl ho)
 ·rename_i x ho; simp at e; subst e; exact zgo r (.inr ho)
 ·rename_i c x y ho
  split at e
  ·rename_i b hc; simp at e; subst e; exact zjb r ho hc
  ·simp at e
 ·rename_i x ho
  split at e
  ·rename_i k off hx
   split at e
   ·rename_i cs hb; simp at e; subst e; exact zgC r ho hx hb
   ·simp at e
  ·simp at e
 ·rename_i t x ho
  split at e
  ·rename_i cs hc
   split at e
   ·rename_i s2 hs; simp at e; subst e; exact zjG r ho hc hs
   ·simp at e
  ·simp at e
 ·rename_i t ho
  split at e
  ·rename_i i ht
   split at e
   ·rename_i s2 hs; simp at e; subst e; exact zix r hE ho ht hs
   ·simp at e
  ·simp at e
 ·rename_i t x ho; exact zhT r hE ho e
 ·rename_i t x y ho; exact zhB r hE ho e
 ·rename_i t x f ho; exact zg7 r hE ho e
 ·rename_i t x y ho; exact zhd r hE ho e
 ·rename_i t x f ho; exact zgB r hE ho e
 ·rename_i t ps ho; exact zgQ r hE ho e
 ·rename_i t n ps ho; exact zeW r hE ho e
 ·rename_i t x y ho; exact zhV r hE ho e
 ·rename_i t x lo hi ho; exact zir r hE ho e
 ·rename_i op t x y u ho; exact zij r hE ho e
 ·rename_i op t x ho; exact zjv r ho e
 ·rename_i t u x ho; exact zhN r hE ho e
 ·rename_i x j ho
  split at e
  ·rename_i ps hx
   split at e
   ·rename_i ag cs hj; simp at e; subst e; exact zhb r ho hx hj
   ·simp at e
  ·simp at e
 ·rename_i f first cap ho
  split at e
  ·rename_i ps h1 h2
   simp at e; subst e;rw[zz h1]at ho;exact zi8 r ho h2
  ·simp at e
 ·rename_i c ho
  split at e
  ·rename_i b hc; exact zf8 r hE ho hc e
  ·simp at e
 ·simp at e
end
structure LoopD where
 slots:List Nat
 boxes:List Nat
 regs:List Nat
 fuel:St→Nat
def zr (k:Nat):List Nat→Bool
 | []=>false
 | j::l=>bif Nat.beq k j then true else zr k l
theorem zq {k:Nat}: ∀{l:List Nat},zr k l=true↔k∈l
 | []=>by simp[zr]
 | j::l=>by
  simp only[zr];cases h:Nat.beq k j with
  | true=>have:=Nat.eq_of_beq_eq_true h; subst this; simp
  | false =>
   have:k≠j:=fun e=>by subst e; simp at h
   simp[zq (l:=l),this]
def tab {α:Type} (d:α) (f:Nat→α):List Nat→Nat→α
 | []=>fun _=>d
 | k::ks=>zg (tab d f ks) k (f k)
theorem zfZ {α:Type} {d:α} {f:Nat→α}: ∀{l:List Nat} {i:Nat},(zr i l=true∧tab d f l i=f i)∨(zr i l=false∧tab d f l i=d)
 | [],i=> .inr ⟨rfl,rfl⟩
 | k::ks,i=>by
  simp only[tab,zr];rw[zJ];cases h:Nat.beq i k with
  | true=>have:=Nat.eq_of_beq_eq_true h; subst this; simp
  | false =>
   have:i≠k:=fun e=>by subst e; simp at h
   simp only[this,if_false,cond_false];exact zfZ
def zeL:List Nat→Nat→Bool
 | []=>fun k=>Nat.ble 1000000000 k
 | k::ks=>zg (zeL ks) k true
theorem zhE: ∀{l:List Nat} {k:Nat},k∈l→zeL l k=true
 | j::l,k,h=>by
  simp only[zeL];rw[zJ];split
  ·rfl
  ·rename_i hne
   rcases List.mem_cons.1 h with h | h
   ·exact absurd h hne
   ·exact zhE h
theorem zhD: ∀{l:List Nat} {k:Nat},zeL l k=false→k<1000000000
 | [],k,h=>by
  rcases Nat.lt_or_ge k 1000000000 with h2 | h2
  ·exact h2
  ·have:Nat.ble 1000000000 k=true:=Nat.ble_eq_true_of_le h2
   simp only[zeL]at h; rw[this]at h; simp at h
 | j::l,k,h=>by
  simp only[zeL]at h;rw[zJ]at h;split at h
  ·simp at h
  ·exact zhD h
def okC (keys:List Nat):C→Bool
 | .vw _ _ _ _=>false
 | .nd _ _ _ _=>false
 | .eo _ _ _ _ _ _=>false
 | .at k=>zr k keys
 | .ptr k _=>zr k keys
 | .fn _ cap=>cap.all fun p=>zr p.1 keys
 | _=>true
def okV (keys:List Nat):V→Bool
 | .c x=>okC keys x
 | .agg cs=>cs.all (okC keys)
 | .tup ps=>ps.all fun p=>p.2.all (okC keys)
 | .junk=>true
def zj1 (keys:List Nat):Option (List C)→Bool
 | some cs=>cs.all (okC keys)
 | none=>true
def zdt:Option Entry→Option Entry
 | some e=>some ⟨e.pk,0⟩
 | none=>none
def okN (d:LoopD) (s:St):Bool:=(d.slots.all fun i=>okV (d.boxes++d.regs) (s.tmps i))&&(d.boxes.all fun k=>zj1 (d.boxes++d.regs) (s.sh.boxes k))
def zb7 (d:LoopD) (s:St):St :=
  { nt:=s.nt,tmps:=tab .junk s.tmps d.slots,sh:={ boxes:=tab none s.sh.boxes d.boxes,regs:=tab none (fun k=>zdt (s.sh.regs k)) d.regs },
    used:=zeL (d.boxes++d.regs) }
def ziI (d:LoopD) (s:St):Option St:=bif okN d s then some (zb7 d s)else none
section
variable {n0:Nat} {M:Nat→Prop} {h0:Home} {s:St} {g:Gh} {X:List Nat} {a:Act} {w:World}
theorem zdW {keys:List Nat} {c:C} (h:okC keys c=true): ∀k∈c.refs,k∈keys:=by
 intro k hk;cases c<;>simp only[C.refs,List.mem_cons,List.not_mem_nil,or_false,okC]at hk h
 case «at» =>subst hk; exact zq.1 h
 case ptr=>subst hk; exact zq.1 h
 case fn =>
  simp only[List.mem_map]at hk;obtain⟨p,hp,rfl⟩:=hk;exact zq.1 (List.all_eq_true.1 h p hp)
 all_goals (simp at h)
theorem zgd {keys:List Nat} {s s':Sh} {h:za} (hb: ∀k c,s'.boxes k=some c→s.boxes k=some c) (hr: ∀k e,s'.regs k=some e→ ∃e0,s.regs k=some e0) :
  ∀{c:C} {v:Value},okC keys c=true→CRel s g h c v→CRel s' g h c v
 | .int _ _,_,_,e=>e
 | .bool _,_,_,e=>e
 | .nil,_,_,e=>e
 | .fz _ _,_,_,e=>e
 | .br _ _,_,_,e=>e
 | .at k,_,_,e=>⟨e.1,fun e' he=>by obtain⟨e0,h0⟩:=hr k e' he; exact e.2 e0 h0⟩
 | .vw _ _ _ _,_,h,_=>by simp[okC]at h
 | .fx _ _ _,_,_,e=>e
 | .nd _ _ _ _,_,h,_=>by simp[okC]at h
 | .ptr k off,_,_,e=>⟨e.1,fun c hc=>e.2 c (hb k c hc)⟩
 | .ef _ _ _ _,_,_,e=>e
 | .eo _ _ _ _ _ _,_,h,_=>by simp[okC]at h
 | .fn f cap,_,_,e=>by
  obtain⟨hc,vs,h1,h2,h3⟩:=e;exact⟨hc,vs,h1,h2,fun j k off hj c hc=>h3 j k off hj c (hb k c hc)⟩
 | .junk,_,_,e=>e
theorem zdX {keys:List Nat} {s s':Sh} {h:za} (hb: ∀k c,s'.boxes k=some c→s.boxes k=some c) (hr: ∀k e,s'.regs k=some e→ ∃e0,s.regs k=some e0) :
  ∀{cs:List C} {vs:List Value},cs.all (okC keys)=true→CRels s g h cs vs→CRels s' g h cs vs
 | [],[],_,_=>trivial
 | c::cs,v::vs,h,e=>by
  simp only[List.all_cons,Bool.and_eq_true]at h;exact⟨zgd hb hr h.1 e.1,zdX hb hr h.2 e.2⟩
theorem zez {keys:List Nat} {s s':Sh} {h:za} (hb: ∀k c,s'.boxes k=some c→s.boxes k=some c) (hr: ∀k e,s'.regs k=some e→ ∃e0,s.regs k=some e0) :
  ∀{ps:List (Bool×List C)} {vs:List Value},(ps.all fun p=>p.2.all (okC keys))=true→VRel1s s g h ps vs→VRel1s s' g h ps vs
 | [],[],_,_=>trivial
 | (true,l)::ps,v::vs,h,e=>by
  simp only[List.all_cons,Bool.and_eq_true]at h;obtain⟨⟨us,rfl,e1⟩,e2⟩:=e;exact⟨⟨us,rfl,zdX hb hr h.1 e1⟩,zez hb hr h.2 e2⟩
 | (false,[c])::ps,v::vs,h,e=>by
  simp only[List.all_cons,Bool.and_eq_true,List.all_nil]at h;exact⟨zgd hb hr h.1.1 e.1,zez hb hr h.2 e.2⟩
 | (false,[])::_,_::_,_,e=>e.1.elim
 | (false,_::_::_)::_,_::_,_,e=>e.1.elim
theorem zkd {keys:List Nat} {s s':Sh} {h:za} (hb: ∀k c,s'.boxes k=some c→s.boxes k=some c) (hr: ∀k e,s'.regs k=some e→ ∃e0,s.regs k=some e0) :
  ∀{x:V} {v:Value},okV keys x=true→VRel s g h x v→VRel s' g h x v
 | .c x,_,h,e=>zgd (c:=x) hb hr h e
 | .agg cs,_,h,e=>by obtain⟨vs,rfl,e⟩:=e; exact⟨vs,rfl,zdX hb hr h e⟩
 | .tup ps,_,h,e=>by obtain⟨vs,rfl,e⟩:=e; exact⟨vs,rfl,zez hb hr h e⟩
 | .junk,_,_,_=>trivial
theorem zjP {keys:List Nat} {x:V} (h:okV keys x=true): ∀k∈x.refs,k∈keys:=by
 intro k hk;cases x with
 | c x=>exact zdW h k hk
 | agg cs =>
  simp only[V.refs,List.mem_flatMap]at hk;obtain⟨c,hc,hk⟩:=hk;exact zdW (List.all_eq_true.1 h c hc) k hk
 | tup ps =>
  simp only[V.refs,List.mem_flatMap]at hk;obtain⟨p,hp,c,hc,hk⟩:=hk;exact zdW (List.all_eq_true.1 (List.all_eq_true.1 h p hp) c hc) k hk
 | junk=>simp[V.refs]at hk
theorem ziJ (r:Rel n0 M h0 s g X a w) {d:LoopD} {s':St} (e:ziI d s=some s'):Rel n0 M h0 s' g X a w:=by
  unfold ziI at e;cases hok:okN d s with
  | false=>rw[hok]at e; simp at e
  | true =>
    rw[hok]at e; simp at e; subst e;unfold okN at hok;simp only[Bool.and_eq_true]at hok;obtain⟨hs,hbx⟩:=hok
    have hb: ∀k c,(zb7 d s).sh.boxes k=some c→s.sh.boxes k=some c∧k∈d.boxes:=by
      intro k c hc;change tab none s.sh.boxes d.boxes k=some c at hc;rcases zfZ (d:=none) (f:=s.sh.boxes) (l:=d.boxes) (i:=k)with⟨h1,h2⟩ | ⟨h1,h2⟩
      · rw[h2]at hc; exact⟨hc,zq.1 h1⟩
      · rw[h2]at hc; simp at hc
    have hr: ∀k e,(zb7 d s).sh.regs k=some e→k∈d.regs∧ ∃e0,s.sh.regs k=some e0∧e0.pk=e.pk:=by
      intro k e he;change tab none (fun k=>zdt (s.sh.regs k)) d.regs k=some e at he;rcases zfZ (d:=none) (f:=fun k=>zdt (s.sh.regs k)) (l:=d.regs) (i:=k)with⟨h1,h2⟩ | ⟨h1,h2⟩
      · rw[h2]at he
        cases h3:s.sh.regs k with
        | none=>rw[h3]at he; simp[zdt]at he
        | some e0=>rw[h3]at he; simp[zdt]at he; subst he; exact⟨zq.1 h1,e0,rfl,rfl⟩
      · rw[h2]at he; simp at he
    have hb': ∀k c,(zb7 d s).sh.boxes k=some c→s.sh.boxes k=some c:=fun k c h=>(hb k c h).1
    have hr': ∀k e,(zb7 d s).sh.regs k=some e→ ∃e0,s.sh.regs k=some e0:=fun k e h=>by obtain⟨_,e0,h1,_⟩:=hr k e h; exact⟨e0,h1⟩
    have hu: ∀k,k∈d.boxes++d.regs→(zb7 d s).used k=true:=by
      intro k hk;exact zhE hk
    have ht: ∀i,((zb7 d s).tmps i=s.tmps i∧okV (d.boxes++d.regs) (s.tmps i)=true)∨(zb7 d s).tmps i= .junk:=by
      intro i;rcases zfZ (d:=V.junk) (f:=s.tmps) (l:=d.slots) (i:=i)with⟨h1,h2⟩ | ⟨h1,h2⟩
      · exact .inl ⟨h2,List.all_eq_true.1 hs i (zq.1 h1)⟩
      · exact .inr h2
    have hcells: ∀k cs,(zb7 d s).sh.boxes k=some cs→cs.all (okC (d.boxes++d.regs))=true:=by
      intro k cs h;obtain⟨h1,h2⟩:=hb k cs h;have:=List.all_eq_true.1 hbx k h2;rw[h1]at this; exact this
    have holds: ∀o b,zu (zb7 d s).sh g X o b→zu s.sh g X o b:=by
      intro o b hh;cases o with
      | box k=>obtain⟨⟨cs,h1⟩,h2⟩:=hh; exact⟨⟨cs,hb' _ _ h1⟩,h2⟩
      | reg k=>obtain⟨⟨e,h1⟩,h2⟩:=hh; exact⟨hr' _ _ h1,h2⟩
      | ext=>exact hh
    exact{
      sz:=r.sz,df:=r.df
      tm:=by
        intro i v hv;rcases ht i with⟨h1,h2⟩ | h1
        · rw[h1]; exact zkd hb' hr' h2 (r.tm i v hv)
        · rw[h1]; trivial
      bx:=by
        intro k cs hk;obtain⟨c,T,h1,h2⟩:=r.bx k cs (hb' k cs hk);exact⟨c,T,h1,zdX hb' hr' (hcells k cs hk) h2⟩
      rg:=by
        intro k e he;obtain⟨_,e0,h1,h2⟩:=hr k e he;rw[← h2]; exact r.rg k e0 h1
      ub:=fun k cs hk=>hu k (List.mem_append.2 (.inl (hb k cs hk).2))
      ur:=fun k e he=>hu k (List.mem_append.2 (.inr (hr k e he).1))
      ut:=by
        intro i k hk;rcases ht i with⟨h1,h2⟩ | h1
        · rw[h1]at hk; exact hu k (zjP h2 k hk)
        · rw[h1]at hk; simp[V.refs]at hk
      uc:=fun k cs hk c hc j hj=>hu j (zdW (List.all_eq_true.1 (hcells k cs hk) c hc) j hj)
      zs:=r.zs
      mine:=fun o b hh=>r.mine o b (holds o b hh)
      uniq:=fun o o' b h1 h2=>r.uniq o o' b (holds o b h1) (holds o' b h2)
      nd:=by
        intro k e he;obtain⟨e0,h1⟩:=hr' k e he;exact r.nd k e0 h1
      nx:=r.nx
      nn:=r.nn
      fr:=r.fr
      zn:=r.zn
      zl:=r.zl
      hh:=fun k e v he hv=>by
        obtain⟨e0,h1⟩:=hr' k e he;exact r.hh k e0 v h1 hv
      hb:=fun k cs b hc hv=>r.hb k cs b (hb' k cs hc) hv
      dz:=r.dz
      hi:=fun k hk=>r.dz k (zhD hk)
      io:=r.io }
end
def zaj (t:Ty) (cs:List Value):Value:=bif t.isSt then .agg cs.toArray else cs.headD undef
def ArgsOk (h:za) (Z R:Nat→Prop):(ps:List Par)→InD ps→List Value→List (List Nat)→Prop
 | [],_,[],[]=>True
 | .rd t::ps,x,v::vs,f::fs=>(∃cs,v=zaj t cs∧Rd h (fun b=>Z b∨R b) t x.1 cs)∧f= []∧ArgsOk h Z R ps x.2 vs fs
 | .kp t a::ps,x,v::vs,f::fs=>(∃cs,v=zaj t cs∧Own h Z t a x.1 cs f)∧ArgsOk h Z R ps x.2 vs fs
 | .fn i t::ps,x,v::vs,f::fs=>(∃b o cs,v= .func (.func i) #[] #[.pointer (some ⟨b,o,none⟩)]∧(Z b∨R b)∧zh h b o t.size=some cs∧Rd h (fun b=>Z b∨R b) t x.1 cs)∧f= []∧ArgsOk h Z R ps x.2 vs fs
 | .rp t::ps,x,v::vs,f::fs=>(∃b o cs,v= .pointer (some ⟨b,o,none⟩)∧(Z b∨R b)∧zh h b o t.size=some cs∧Rd h (fun b=>Z b∨R b) t x.1 cs)∧f= []∧ArgsOk h Z R ps x.2 vs fs
 | .mt t a::ps,x,v::vs,f::fs=>(∃cs,v=zaj t cs∧Own h Z t a x.1 cs f)∧ArgsOk h Z R ps x.2 vs fs
 | .pt t a::ps,x,v::vs,f::fs=>(∃b c T f',v= .pointer (some ⟨b,0,none⟩)∧h b=some (.cells c T (0,0))∧Own h Z t a x.1 c.toList f'∧f=b::f')∧ArgsOk h Z R ps x.2 vs fs
 | _,_,_,_=>False
def zkk (h:za) (Z:Nat→Prop):(p:OT)→p.t.D→Value→List Nat→Prop
 | ⟨false,t,a⟩,x,v,f=> ∃cs,v=zaj t cs∧Own h Z t a x cs f
 | ⟨true,t,a⟩,x,v,f=> ∃b c T f',v= .pointer (some ⟨b,0,none⟩)∧h b=some (.cells c T (0,0))∧Own h Z t a x c.toList f'∧f=b::f'
def zdD (h:za) (Z:Nat→Prop):(os:List OT)→zaY os→List Value→List (List Nat)→Prop
 | [],_,[],[]=>True
 | p::os,x,v::vs,f::fs=>zkk h Z p x.1 v f∧zdD h Z os x.2 vs fs
 | _,_,_,_=>False
def zbY (h:za) (Z:Nat→Prop):(ps:List Par)→zak ps→List Value→List (List Nat)→Prop
 | [],_,[],[]=>True
 | .rd _::ps,x,_::vs,f::fs=>f= []∧zbY h Z ps x vs fs
 | .kp _ _::ps,x,_::vs,f::fs=>f= []∧zbY h Z ps x vs fs
 | .fn _ _::ps,x,_::vs,f::fs=>f= []∧zbY h Z ps x vs fs
 | .rp _::ps,x,_::vs,f::fs=>f= []∧zbY h Z ps x vs fs
 | .mt t a::ps,x,v::vs,f::fs=>(∃cs,v=zaj t cs∧Own h Z t a x.1 cs f)∧zbY h Z ps x.2 vs fs
 | .pt t a::ps,x,v::vs,f::fs=>(∃b c T f',v= .pointer (some ⟨b,0,none⟩)∧h b=some (.cells c T (0,0))∧Own h Z t a x.1 c.toList f'∧f=b::f')∧zbY h Z ps x.2 vs fs
 | _,_,_,_=>False
def zeH:List Value→Value
 | [v]=>v
 | vs=> .tuple vs.toArray
def DoneOk (con:Con) (args:List Value) (fs:List (List Nat)) (Z:Nat→Prop) (w:World) (r:zaY con.outs×zak con.ins) (e:Ending) (w':World):Prop :=∃vs Z' ds ms,e= .returned (zeH vs)∧zby w'=zby w∧w.heap.size≤w'.heap.size∧(∀b,b<w.heap.size→b∉fs.flatten→hp w' b=hp w b)∧(∀b,Z b→Z' b) ∧ (∀b,Z' b→Z b∨(w.heap.size≤b∧b<w'.heap.size)∨b∈fs.flatten) ∧ zdD (hp w') Z' con.outs r.1 vs ds∧zbY (hp w') Z' con.ins r.2 args ms∧(ds.flatten++ms.flatten).Nodup ∧ ∀b∈ds.flatten++ms.flatten,((w.heap.size≤b∧b<w'.heap.size)∨b∈fs.flatten)∧ ¬Z' b
structure ConOk (P:Program) (f:FuncId) (con:Con):Prop where
  fn: ∃fn,P.funcs[f]? =some fn∧(fn.name== "runtime.NumGoroutine")=false∧fn.body.isNone=false
  run: ∀(w:World) (Z R:Nat→Prop) (xs:InD con.ins) (args:List Value) (fs:List (List Nat)) (r:zaY con.outs×zak con.ins),ArgsOk (hp w) Z R con.ins xs args fs→con.F xs=some r →
    (∀b,Z b∨R b→b<w.heap.size)→fs.flatten.Nodup→(∀b∈fs.flatten,b<w.heap.size∧ ¬Z b∧ ¬R b)→Calls P f args.toArray w (DoneOk con args fs Z w r)
def zy (ag:Bool):V→Option (List C)
 | .agg cs=>bif ag then some cs else none
 | .c x=>bif ag then none else some [x]
 | _=>none
def zeS (sh:Sh) (a:Ann) (t:Ty):C→Option LD
 | .int k n=>some (.int k n)
 | .bool b=>some (.bool b)
 | .nil=>match t with
  | .sl u=>some (.sl u [])
  | _=>none
 | .fz u l=>match a with
  | .ow _=>none
  | _=>some (.sl u l)
 | .at k=>match a with
  | .ow a'=>(match sh.regs k with
   | some e=>bif e.pk.a.beq a' then some (.sl e.pk.t e.pk.l)else none
   | none=>none)
  | _=>none
 | _=>none
def zP (sh:Sh):List Ann→List Ty→List C→Option (List LD)
 | [],[],[]=>some []
 | a::as,t::ts,c::cs=>match zeS sh a t c,zP sh as ts cs with
  | some d,some ds=>some (d::ds)
  | _,_=>none
 | _,_,_=>none
def zdQ (sh:Sh) (t:Ty) (a:Ann) (cs:List C):Option t.D :=
 match zP sh (a.flat t) t.leaves cs with
 | some ds=>match t.unflat ds with
  | some (x,[])=>some x
  | _=>none
 | none=>none
def zS:List C→List Nat
 | []=> []
 | .at k::cs=>k::zS cs
 | _::cs=>zS cs
def zD:List Par→List V→List Nat
 | .mt t _::ps,v::vs=>(match zy t.isSt v with
  | some cs=>zS cs
  | none=> [])++zD ps vs
 | _::ps,_::vs=>zD ps vs
 | _,_=> []
def zB:List Par→List V→List Nat
 | .pt _ _::ps,.c (.ptr k _)::vs=>k::zB ps vs
 | _::ps,_::vs=>zB ps vs
 | _,_=> []
def zH:List Par→List V→List Nat
 | .fn _ _::ps,.c (.fn _ [(k,_)])::vs=>k::zH ps vs
 | _::ps,_::vs=>zH ps vs
 | _,_=> []
def zfC (t u:Ty) (x:t.D):Option u.D :=
 match Ty.eq t u with
 | some ⟨h⟩=>some (h ▸ x)
 | none=>none
def fnT (sh:Sh) (i:FuncId) (t:Ty):V→Option t.D
 | .c (.fn f [(k,off)])=>bif Nat.beq f i&&Nat.beq off 0&&t.scalar then(match sh.boxes k with
  | some [c]=>rdT sh t [c]
  | _=>none)else none
 | .c (.fx f u x)=>bif Nat.beq f i then zfC u t x else none
 | _=>none
def rpT (t:Ty):V→Option t.D
 | .c (.ef _ u x off)=>bif Nat.beq off 0 then zfC u t x else none
 | _=>none
def zaa (ks:List Nat) (sh:Sh):Sh:={ sh with regs:=fun j=>bif zr j ks then none else sh.regs j }
def zw (sh:Sh):(ps:List Par)→List V→Option ((Sh→Sh→Option (InD ps))×Sh)
 | [],[]=>some (fun _ _=>some (),sh)
 | .rd t::ps,v::vs=>match zy t.isSt v,zw sh ps vs with
  | some cs,some (k,sh')=>some (fun sm sr=>match rdT sr t cs,k sm sr with
   | some x,some xs=>some (x,xs)
   | _,_=>none,sh')
  | _,_=>none
 | .fn i t::ps,v::vs=>match fnT sh i t v,zw sh ps vs with
  | some x,some (k,sh')=>some (fun sm sr=>match k sm sr with
   | some xs=>some (x,xs)
   | none=>none,sh')
  | _,_=>none
 | .rp t::ps,v::vs=>match rpT t v,zw sh ps vs with
  | some x,some (k,sh')=>some (fun sm sr=>match k sm sr with
   | some xs=>some (x,xs)
   | none=>none,sh')
  | _,_=>none
 | .kp t a::ps,v::vs=>match zy t.isSt v with
  | some cs=>match mvT sh t a cs with
   | some (x,sh1)=>match zw sh1 ps vs with
    | some (k,sh')=>some (fun sm sr=>match k sm sr with
     | some xs=>some (x,xs)
     | none=>none,sh')
    | none=>none
   | none=>none
  | none=>none
 | .mt t a::ps,v::vs=>match zy t.isSt v,zw sh ps vs with
  | some cs,some (k,sh')=>some (fun sm sr=>match zdQ sm t a cs,k sm sr with
   | some x,some xs=>some (x,xs)
   | _,_=>none,sh')
  | _,_=>none
 | .pt t a::ps,v::vs=>match v with
  | .c (.ptr k off)=>bif Nat.beq off 0 then(match sh.boxes k with
   | some cs=>match mvT sh t a cs with
    | some (x,sh1)=>match zw sh1 ps vs with
     | some (k,sh')=>some (fun sm sr=>match k sm sr with
      | some xs=>some (x,xs)
      | none=>none,sh')
     | none=>none
    | none=>none
   | none=>none)else none
  | _=>none
 | _,_=>none
def zo (s:St) (key:Nat):List LD→List Ann→Option (List C×St)
 | [],[]=>some ([],s)
 | .int k n::ds,_::as=>match zo s key ds as with
  | some (cs,s)=>some (.int k n::cs,s)
  | none=>none
 | .bool b::ds,_::as=>match zo s key ds as with
  | some (cs,s)=>some (.bool b::cs,s)
  | none=>none
 | .sl t l::ds,.ow a::as=>match zV s key ⟨t,a,l⟩with
  | some s=>match zo s (key+1) ds as with
   | some (cs,s)=>some (.at key::cs,s)
   | none=>none
  | none=>none
 | .sl t l::ds,_::as=>match zo s key ds as with
  | some (cs,s)=>some (.fz t l::cs,s)
  | none=>none
 | _,_=>none
def zaJ (s:St) (key:Nat):(os:List OT)→zaY os→Option (List (Bool×List C)×St)
 | [],_=>some ([],s)
 | p::os,x=>match zo s key (p.t.flat x.1) (p.a.flat p.t)with
  | some (cs,s)=>match p.pt with
   | true=>(match zQ s (key+p.t.size) cs with
    | some s=>(match zaJ s (key+p.t.size+1) os x.2 with
     | some (l,s)=>some ((false,[.ptr (key+p.t.size) 0])::l,s)
     | none=>none)
    | none=>none)
   | false=>bif p.t.isSt||Nat.beq cs.length 1 then(match zaJ s (key+p.t.size+1) os x.2 with
    | some (l,s)=>some ((p.t.isSt,cs)::l,s)
    | none=>none)else none
  | none=>none
def zjW:List (Bool×List C)→V
 | [p]=>zv p.1 p.2
 | ps=> .tup ps
def zaZ (sh:Sh):List Ann→List C→List LD→List (Nat×Entry)
 | .ow a::as,.at k::cs,.sl t l::ds=>(k,⟨⟨t,a,l⟩,(match sh.regs k with | some e=>e.ver | none=>0)+1⟩)::zaZ sh as cs ds
 | _::as,_::cs,_::ds=>zaZ sh as cs ds
 | _,_,_=> []
def zaH (sh:Sh):(ps:List Par)→List V→zak ps→List (Nat×Entry)
 | [],_,_=> []
 | .rd _::ps,_::vs,x=>zaH sh ps vs x
 | .kp _ _::ps,_::vs,x=>zaH sh ps vs x
 | .fn _ _::ps,_::vs,x=>zaH sh ps vs x
 | .rp _::ps,_::vs,x=>zaH sh ps vs x
 | .mt t a::ps,v::vs,x=>(match zy t.isSt v with
  | some cs=>zaZ sh (a.flat t) cs (t.flat x.1)
  | none=> [])++zaH sh ps vs x.2
 | .pt _ _::ps,_::vs,x=>zaH sh ps vs x.2
 | _,[],_=> []
def zO (s:St) (key:Nat):(ps:List Par)→List V→zak ps→Option St
 | [],[],_=>some s
 | .rd _::ps,_::vs,x=>zO s key ps vs x
 | .kp _ _::ps,_::vs,x=>zO s key ps vs x
 | .fn _ _::ps,_::vs,x=>zO s key ps vs x
 | .rp _::ps,_::vs,x=>zO s key ps vs x
 | .mt _ _::ps,_::vs,x=>zO s key ps vs x.2
 | .pt t a::ps,v::vs,x=>match v with
  | .c (.ptr k off)=>bif Nat.beq off 0 then(match zo s key (t.flat x.1) (a.flat t)with
   | some (cs,s1)=>zO { s1 with sh:={ s1.sh with boxes:=zg s1.sh.boxes k (some cs) } } (key+t.size) ps vs x.2
   | none=>none)else none
  | _=>none
 | _,_,_=>none
def zaf:List Nat→Bool
 | []=>true
 | k::ks=> !(zr k ks)&&zaf ks
def zcq:List (Nat×Entry)→Nat→Entry
 | [],_=>⟨⟨.bool,.fz,[]⟩,0⟩
 | (k,e)::l,j=>bif Nat.beq j k then e else zcq l j
def zbG (sh:Sh) (k:Nat):List C :=
 match sh.boxes k with
 | some cs=>cs.map fun _=> .junk
 | none=> []
def zW:List OT→Nat
 | []=>0
 | p::os=>p.t.size+1+zW os
def zc5 (s:St) (sm:Sh) (lent boxes:List Nat) (back:List (Nat×Entry)):St :={ s with sh:=zb6 sm (fun j=>zr j lent) (fun j=>zr j boxes) (zcq back) (zbG sm) }
def zfy (l m:List Nat):Bool:=l.all fun k=> !(zr k m)
def zae (s:St):Callee→Option (FuncId×List V)
 | .value (.func f)=>some (f,[])
 | .value (.tmp i)=>match ze s (.tmp i)with
  | .c (.fx f t x)=>some (f,[.c (.ef false t x 0)])
  | _=>none
 | _=>none
def zb0 {α:Type} (site:Nat) (s:St) (dst:Option Nat) (con:Con) (vs:List V) (K:St→Option α):Option α :=
 match zw s.sh con.ins vs with
 | some (k,sm)=>bif zaf (zD con.ins vs)&&zaf (zB con.ins vs)&&zfy (zH con.ins vs) (zB con.ins vs)then
  (match k sm (zaa (zD con.ins vs) sm)with
  | some xs=>match con.F xs with
   | some r=>match zaJ (zc5 s sm (zD con.ins vs) (zB con.ins vs) (zaH sm con.ins vs r.2)) site con.outs r.1 with
    | some (l,s1)=>match zO s1 (site+zW con.outs) con.ins vs r.2 with
     | some s2=>K (s2.putO dst (zjW l))
     | none=>none
    | none=>none
   | none=>none
  | none=>none)else none
 | none=>none
def zc1 {α:Type} (E:Env) (site:Nat) (s:St) (o:Oper) (c:Call) (K:St→Option α):Option α :=
 match zae s c.callee with
 | some (f,ex)=>match E.G f with
  | some con=>zb0 site s o.dst con (c.args.toList.map (ze s)++ex) K
  | none=>none
 | none=>none
section
variable {P:Program} {E:Env} {n0:Nat} {M:Nat→Prop} {h0:Home} {s s':St} {g:Gh} {X:List Nat} {a:Act} {w:World} {o:Oper}
theorem zaM {sh:Sh} {h:za} {t:Ty} {x:V} {v:Value} {cs:List C} (e:zy t.isSt x=some cs) (hv:VRel sh g h x v) :
  (∃vs,v=zaj t vs∧CRels sh g h cs vs)∧ ∀c∈cs,∀k∈c.refs,k∈x.refs:=by
 unfold zaj;cases x with
 | c x =>
  simp only[zy]at e;cases hs:t.isSt with
  | true=>rw[hs]at e; simp at e
  | false =>
   rw[hs]at e; simp at e; subst e;exact⟨⟨[v],rfl,hv,trivial⟩,fun c hc k hk=>by simp at hc; subst hc; exact hk⟩
 | agg cs' =>
  simp only[zy]at e;cases hs:t.isSt with
  | false=>rw[hs]at e; simp at e
  | true =>
   rw[hs]at e; simp at e; subst e;obtain⟨vs,rfl,h⟩:=hv;exact⟨⟨vs,rfl,h⟩,fun c hc k hk=>List.mem_flatMap.2 ⟨c,hc,hk⟩⟩
 | tup _=>simp[zy]at e
 | junk=>simp[zy]at e
theorem zey (r:Rel n0 M h0 s g X a w) {site:Nat} {pk:Pk} {v:Value} {fp X':List Nat} (e:zV s site pk=some s') (hp':X.Perm (fp++X'))
  (ho:Own (hp w) g.Z (.sl pk.t) (.ow pk.a) pk.l [v] fp) :
  ∃g',g'.Z=g.Z∧g'.R=g.R∧g'.bx=g.bx∧s'.sh.boxes=s.sh.boxes∧Rel n0 M h0 s' g' X' a w∧CRel s'.sh g' (hp w) (.at site) v∧s'.used site=true∧(∀k,s.used k=true→s'.used k=true) ∧
   ∀cs vs,CRels s.sh g (hp w) cs vs→(∀c∈cs,∀k∈c.refs,s.used k=true)→CRels s'.sh g' (hp w) cs vs:=by
 unfold zV at e;cases hs:s.used site with
 | true=>rw[hs]at e; simp at e
 | false =>
  rw[hs]at e; simp at e; subst e;refine⟨{ g with hd:=zg g.hd site v,fp:=zg g.fp site fp },rfl,rfl,rfl,rfl,r.claim hs hp' ho,⟨?_,fun e he=> ?_⟩,zx _ _ _,fun k hk=> ?_,fun cs vs hc hu=> ?_⟩
  ·obtain⟨ad,cap,rfl,_⟩:=zci ho; trivial
  ·simp[zx]
  ·show zg s.used site true k=true
   rw[zJ]; split<;>simp[hk]
  ·have ov:Over g { g with hd:=zg g.hd site v,fp:=zg g.fp site fp } (hp w) (hp w):=⟨fun _ h=>h,fun _ h=>h,fun _ _=>rfl,fun _ _=>rfl⟩
   refine CRels.over ov r.rg (fun c hc' k hk=> ?_) hc;have hne:k≠site:=fun h=>by subst h; rw[hu c hc' k hk]at hs; simp at hs
   refine⟨fun c' hc=>⟨⟨c',hc⟩,rfl⟩,fun e' he=> ?_⟩;change zg s.sh.regs site (some ⟨pk,0⟩) k=some e' at he;rw[zt _ _ hne]at he;exact⟨e',he,zt _ _ hne,Nat.le_refl _,fun _=>⟨rfl,fun _ _=>rfl⟩⟩
def Keeps (s s':St) (g g':Gh) (h:za):Prop :=(∀k,s.used k=true→s'.used k=true)∧(∀cs vs,CRels s.sh g h cs vs→(∀c∈cs,∀k∈c.refs,s.used k=true)→CRels s'.sh g' h cs vs)∧(∀k,s.used k=true→g'.bx k=g.bx k) ∧ (∀k cs,s.sh.boxes k=some cs→ ∃cs',s'.sh.boxes k=some cs')∧g'.R=g.R
theorem Keeps.refl (s:St) (g:Gh) (h:za):Keeps s s g g h:=⟨fun _ h=>h,fun _ _ h _=>h,fun _ _=>rfl,fun k cs h=>⟨cs,h⟩,rfl⟩
theorem Keeps.trans {s1 s2 s3:St} {g1 g2 g3:Gh} {h:za} (a:Keeps s1 s2 g1 g2 h) (b:Keeps s2 s3 g2 g3 h):Keeps s1 s3 g1 g3 h :=
 ⟨fun k hk=>b.1 k (a.1 k hk),fun cs vs hc hu=>b.2.1 cs vs (a.2.1 cs vs hc hu) (fun c hc k hk=>a.1 k (hu c hc k hk)),fun k hk=>(b.2.2.1 k (a.1 k hk)).trans (a.2.2.1 k hk),fun k cs h=>by
  obtain⟨cs1,h1⟩:=a.2.2.2.1 k cs h
  exact b.2.2.2.1 k cs1 h1,b.2.2.2.2.trans a.2.2.2.2⟩
theorem zag: ∀{ds:List LD} {as:List Ann} {s s':St} {g:Gh} {X X':List Nat} {key:Nat} {cs:List C} {vs:List Value} {fs:List (List Nat)},Rel n0 M h0 s g X a w →
  zo s key ds as=some (cs,s')→OwnLs (hp w) g.Z ds as vs fs→X.Perm (fs.flatten++X') →
  ∃g',g'.Z=g.Z∧Rel n0 M h0 s' g' X' a w∧CRels s'.sh g' (hp w) cs vs∧(∀c∈cs,∀k∈c.refs,s'.used k=true)∧Keeps s s' g g' (hp w)
 | [],[],s,s',g,X,X',key,cs,[],[],r,e,ho,hp'=>by
  simp[zo]at e; obtain⟨rfl,rfl⟩:=e;refine⟨g,rfl,r.dropExt (fp:= []) (by simpa using hp'),trivial,fun c hc=>by simp at hc,Keeps.refl _ _ _⟩
 | .int k n::ds,an::as,s,s',g,X,X',key,cs,v::vs,f::fs,r,e,ho,hp'=>by
  simp only[zo]at e;split at e
  ·rename_i cs1 s1 h1
   simp at e; obtain⟨rfl,rfl⟩:=e;obtain⟨⟨hrd,rfl⟩,ho2⟩:=ho;obtain⟨g',hz,r',hc,hu,kp⟩:=zag r h1 ho2 (by simpa using hp');obtain⟨hv,hf⟩:=hrd;simp at hv; subst hv
   exact⟨g',hz,r',⟨⟨rfl,hf⟩,hc⟩,fun c hc' j hj=>by
    rcases List.mem_cons.1 hc' with rfl | hc'
    ·simp[C.refs]at hj
    ·exact hu c hc' j hj,kp⟩
  ·simp at e
 | .bool b::ds,an::as,s,s',g,X,X',key,cs,v::vs,f::fs,r,e,ho,hp'=>by
  simp only[zo]at e;split at e
  ·rename_i cs1 s1 h1
   simp at e; obtain⟨rfl,rfl⟩:=e;obtain⟨⟨hrd,rfl⟩,ho2⟩:=ho;obtain⟨g',hz,r',hc,hu,kp⟩:=zag r h1 ho2 (by simpa using hp');simp only[Rd]at hrd;simp at hrd; subst hrd
   exact⟨g',hz,r',⟨rfl,hc⟩,fun c hc' j hj=>by
    rcases List.mem_cons.1 hc' with rfl | hc'
    ·simp[C.refs]at hj
    ·exact hu c hc' j hj,kp⟩
  ·simp at e
 | .sl t l::ds,an::as,s,s',g,X,X',key,cs,v::vs,f::fs,r,e,ho,hp'=>by
  have notow:(∀a',an≠ .ow a')→zo s key (.sl t l::ds) (an::as)=(match zo s key ds as with
   | some (cs,s)=>some (.fz t l::cs,s)
   | none=>none):=by
   intro hn;cases an with
   | ow a'=>exact absurd rfl (hn a')
   | fz=>rfl
   | pr _ _=>rfl
  obtain⟨ho1,ho2⟩:=ho
  have hcase:(∃a',an= .ow a')∨ ∀a',an≠ .ow a':=by
   cases an with
   | ow a'=>exact .inl ⟨a',rfl⟩
   | fz=>exact .inr (by simp)
   | pr _ _=>exact .inr (by simp)
  rcases hcase with⟨a',rfl⟩ | hn
  ·simp only[zo]at e
   split at e
   ·rename_i s1 h1
    split at e
    ·rename_i cs1 s2 h2
     simp at e; obtain⟨rfl,rfl⟩:=e;obtain⟨g1,hz1,hr1,hbx1,hbo1,r1,hc1,hu1,hk1,hk2⟩:=zey (X':=fs.flatten++X') r h1 (by simpa using hp') ho1;obtain⟨g2,hz2,r2,hc2,hu2,kp2⟩:=zag r1 h2 (by rw[hz1]; exact ho2) (.refl _);have k1:Keeps s s1 g g1 (hp w):=⟨hk1,hk2,fun k _=>by rw[hbx1],fun k cs h=>⟨cs,by rw[hbo1]; exact h⟩,hr1⟩;have hat:CRels s2.sh g2 (hp w) [.at key] [v]:=kp2.2.1 [.at key] [v] ⟨hc1,trivial⟩ (fun c hc j hj=>by simp at hc; subst hc; simp[C.refs]at hj; subst hj; exact hu1)
     exact⟨g2,hz2.trans hz1,r2,⟨hat.1,hc2⟩,fun c hc' j hj=>by
      rcases List.mem_cons.1 hc' with rfl | hc'
      ·simp[C.refs]at hj; subst hj; exact kp2.1 _ hu1
      ·exact hu2 c hc' j hj,k1.trans kp2⟩
    ·simp at e
   ·simp at e
  ·rw[notow hn]at e
   split at e
   ·rename_i cs1 s1 h1
    simp at e; obtain⟨rfl,rfl⟩:=e
    have ho1':Rd (hp w) g.Z (.sl t) l [v]∧f= []:=by
     cases an with
     | ow a'=>exact absurd rfl (hn a')
     | fz=>exact ho1
     | pr _ _=>exact ho1
    obtain⟨hrd,rfl⟩:=ho1';obtain⟨g',hz,r',hc,hu,kp⟩:=zag r h1 ho2 (by simpa using hp')
    refine⟨g',hz,r',⟨?_,hc⟩,fun c hc' j hj=>by
     rcases List.mem_cons.1 hc' with rfl | hc'
     ·simp[C.refs]at hj
     ·exact hu c hc' j hj,kp⟩
    show Rd (hp w) g'.Z (.sl t) l [v];rw[hz]; exact hrd
   ·simp at e
 | _::_,[],_,_,_,_,_,_,_,vs,fs,_,e,_,_=>by simp[zo]at e
 | [],_::_,_,_,_,_,_,_,_,_,_,_,e,_,_=>by simp[zo]at e
 | [],[],_,_,_,_,_,_,_,_::_,_,_,_,ho,_=>by cases ho
 | [],[],_,_,_,_,_,_,_,[],_::_,_,_,ho,_=>by cases ho
 | d::_,_::_,_,_,_,_,_,_,_,[],_,_,_,ho,_=>by cases ho
 | d::_,_::_,_,_,_,_,_,_,_,_::_,[],_,_,ho,_=>by cases ho
end
end Go.Tf
