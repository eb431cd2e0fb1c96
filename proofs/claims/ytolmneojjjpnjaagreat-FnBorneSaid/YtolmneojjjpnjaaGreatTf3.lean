/- A symbolic executor over the model, proved sound: part 3. -/
import Derived.Deep.LoopGhost
import Derived.Test.YtolmneojjjpnjaaGreatTf2
namespace Go.Tf
set_option linter.unusedVariables false
set_option linter.unusedSimpArgs false
theorem zfR {h:za} {Z:Nat→Prop}: ∀{t:Ty} {x:t.D} {cs:List Value} {fp:List Nat},Own h Z t .fz x cs fp→Rd h Z t x cs∧fp= []
 | .int _,_,_,_,e=>e
 | .bool,_,_,_,e=>e
 | .sl _,_,_,_,e=>e
 | .pr t u,x,_,_,e=>by
  obtain⟨c1,c2,f1,f2,rfl,rfl,h1,h2⟩:=e;obtain⟨r1,rfl⟩:=zfR (t:=t) h1;obtain⟨r2,rfl⟩:=zfR (t:=u) h2;exact⟨⟨c1,c2,rfl,r1,r2⟩,rfl⟩
 | .st _ t,x,_,_,e=>zfR (t:=t) e
def VRels (sh:Sh) (g:Gh) (h:za):List V→List Value→Prop
 | [],[]=>True
 | x::xs,v::vs=>VRel sh g h x v∧VRels sh g h xs vs
 | _,_=>False
section
variable {P:Program} {E:Env} {n0:Nat} {M:Nat→Prop} {h0:Home} {s s':St} {g:Gh} {X:List Nat} {a:Act} {w:World} {o:Oper}
theorem VRels.over {s s':Sh} {g g':Gh} {h h':za} (ho:Over g g' h h') (hreg: ∀k e,s.regs k=some e→Own h g.Z (.sl e.pk.t) (.ow e.pk.a) e.pk.l [g.hd k] (g.fp k)) (hk: ∀k,KeyOk s s' g g' h h' k) :
  ∀{xs:List V} {vs:List Value},VRels s g h xs vs→VRels s' g' h' xs vs
 | [],[],_=>trivial
 | x::xs,v::vs,e=>⟨VRel.over ho hreg (fun k _=>hk k) e.1,VRels.over ho hreg hk e.2⟩
theorem zen (r:Rel n0 M h0 s g X a w): ∀(xs:List Operand),VRels s.sh g (hp w) (xs.map (ze s)) (xs.map a.eval)
 | []=>trivial
 | x::xs=>⟨(zf r x).1,zen r xs⟩
theorem zev (r:Rel n0 M h0 s g X a w): ∀{as:List Ann} {ts:List Ty} {cs:List C} {ds:List LD} {vs:List Value},zP s.sh as ts cs=some ds→CRels s.sh g (hp w) cs vs →
  ∃fs,OwnLs (hp w) g.Z ds as vs fs∧fs.flatten=(zS cs).flatMap g.fp∧ ∀k∈zS cs,∃e,s.sh.regs k=some e
 | [],[],[],ds,[],e,hv=>by simp[zP]at e; subst e; exact⟨[],trivial,rfl,fun k hk=>by simp[zS]at hk⟩
 | an::as,t::ts,c::cs,ds,v::vs,e,hv=>by
  simp only[zP]at e;split at e
  ·rename_i d ds' h1 h2
   simp at e; subst e;obtain⟨fs,ho,hf,hk⟩:=zev r h2 hv.2;have hv1:=hv.1;cases c<;>simp only[zeS]at h1
   case int k n =>
    simp at h1; subst h1;exact⟨[]::fs,⟨⟨by obtain⟨rfl,hf⟩:=hv1; exact⟨rfl,hf⟩,rfl⟩,ho⟩,by simpa [zS]using hf,hk⟩
   case bool b =>
    simp at h1; subst h1;exact⟨[]::fs,⟨⟨by simp only[CRel]at hv1; subst hv1; rfl,rfl⟩,ho⟩,by simpa [zS]using hf,hk⟩
   case nil =>
    split at h1
    ·simp at h1; subst h1
     simp only[CRel]at hv1; subst hv1;refine⟨[]::fs,⟨?_,ho⟩,by simpa [zS]using hf,hk⟩;cases an with
     | ow a'=>exact⟨none,0,rfl,by simp,by simp,.inl ⟨rfl,rfl,rfl,rfl⟩⟩
     | fz=>exact⟨zbM,rfl⟩
     | pr _ _=>exact⟨zbM,rfl⟩
    ·simp at h1
   case fz u l =>
    split at h1
    ·simp at h1
    ·rename_i hn
     simp at h1; subst h1;exact⟨[]::fs,⟨zc8 (fun a' h=>hn a' h) hv1,ho⟩,by simpa [zS]using hf,hk⟩
   case «at» k =>
    split at h1
    ·rename_i a'
     split at h1
     ·rename_i en hen
      cases hb:en.pk.a.beq a' with
      | false=>rw[hb]at h1; simp at h1
      | true =>
       rw[hb]at h1; simp at h1; subst h1;have hv2:=hv1.2 en hen;subst hv2;have:=Ann.eq_of_beq hb;subst this;refine⟨g.fp k::fs,⟨r.rg k en hen,ho⟩,by simp[zS,hf],fun j hj=> ?_⟩;rcases List.mem_cons.1 hj with rfl | hj
       ·exact⟨en,hen⟩
       ·exact hk j hj
     ·simp at h1
    ·simp at h1
   all_goals simp at h1
  ·simp at e
 | [],[],[],_,_::_,_,hv=>hv.elim
 | _::_,_::_,_::_,_,[],_,hv=>hv.elim
 | [],_::_,_,_,_,e,_=>by simp[zP]at e
 | [],[],_::_,_,_,e,_=>by simp[zP]at e
 | _::_,[],_,_,_,e,_=>by simp[zP]at e
 | _::_,_::_,[],_,_,e,_=>by simp[zP]at e
theorem zhS (r:Rel n0 M h0 s g X a w) {t:Ty} {an:Ann} {cs:List C} {x:t.D} {vs:List Value} (e:zdQ s.sh t an cs=some x) (hv:CRels s.sh g (hp w) cs vs) :
  Own (hp w) g.Z t an x vs ((zS cs).flatMap g.fp)∧ ∀k∈zS cs,∃e,s.sh.regs k=some e:=by
 unfold zdQ at e;split at e
 ·rename_i ds h1
  split at e
  ·rename_i y h2
   simp at e; subst e;have:=zaD _ _ _ _ h2;simp at this; subst this;obtain⟨fs,ho,hf,hk⟩:=zev r h1 hv;exact⟨zE.2 ⟨fs,hf.symm,ho⟩,hk⟩
  ·simp at e
 ·simp at e
theorem zcs {ks:List Nat} {sh:Sh}: ∀k e,(zaa ks sh).regs k=some e→sh.regs k=some e∧k∉ks:=by
 intro k e h;change (bif zr k ks then none else sh.regs k)=some e at h;cases hm:zr k ks with
 | true=>rw[hm]at h; simp at h
 | false=>rw[hm]at h; exact⟨h,fun hk=>by rw[zq.2 hk]at hm; simp at hm⟩
theorem zfk {t u:Ty} {x:t.D} {y:u.D} (h:zfC t u x=some y): ∃e:t=u,y=e ▸ x:=by
 unfold zfC at h;split at h
 ·rename_i e _; simp at h; exact⟨e,h.symm⟩
 ·simp at h
theorem zh0 {t:Ty} (h:t.scalar=true):t.noSl=true∧t.size=1:=by
 cases t<;>simp[Ty.scalar]at h<;>exact⟨rfl,rfl⟩
theorem zi6 (r:Rel n0 M h0 s g X a w) {i:FuncId} {t:Ty} {v:V} {x:t.D} {u:Value} (e:fnT s.sh i t v=some x) (hv:VRel s.sh g (hp w) v u) :
  (∃b o cs,u= .func (.func i) #[] #[.pointer (some ⟨b,o,none⟩)]∧zh (hp w) b o t.size=some cs ∧
   ∀(Z R:Nat→Prop),(∀b,g.Z b→Z b)→(∀b,g.R b→R b)→(∀k∈zH [.fn i t] [v],R (g.bx k))→(Z b∨R b)∧Rd (hp w) (fun b=>Z b∨R b) t x cs) ∧
  ∀k∈zH [.fn i t] [v],∃cs,s.sh.boxes k=some cs:=by
 unfold fnT at e;split at e
 ·rename_i f k off
  cases hb:(Nat.beq f i&&Nat.beq off 0&&t.scalar)with
  | false=>rw[hb]at e; simp at e
  | true =>
   rw[hb]at e; simp only[cond_true]at e;simp only[Bool.and_eq_true]at hb;obtain⟨⟨h1,h2⟩,h3⟩:=hb;have h1:=Nat.eq_of_beq_eq_true h1;have h2:=Nat.eq_of_beq_eq_true h2;subst h1 h2;obtain⟨hn,hs⟩:=zh0 h3;split at e
   ·rename_i c hbx
    obtain⟨_,vs,rfl,hl,hp1⟩:=hv;have hp2:=hp1 0 k 0 rfl _ hbx
    match vs,hl,hp2 with
    | [v0],_,hp2 =>
     simp at hp2; subst hp2;obtain⟨cc,T,hblk,hcr⟩:=r.bx k _ hbx
     match hcc:cc.toList,hcr with
     | [v1],hcr =>
      have hrd:=zgu r e hcr;refine⟨⟨g.bx k,0,[v1],rfl,?_,fun Z R hZ hR hf=>⟨.inr (hf k (by simp[zH])),zeU hn hrd⟩⟩,fun j hj=> ?_⟩
      ·rw[hs]
       have:zL (hp w) (g.bx k) 0=some v1:=by
        unfold zL;rw[hblk];have:cc= #[v1]:=by rw[← Array.toArray_toList (xs:=cc),hcc]
        rw[this]; rfl
       simp[zh,this]
      ·simp[zH]at hj
       subst hj; exact⟨_,hbx⟩
     | [],hcr=>exact hcr.elim
     | _::_::_,hcr=>exact hcr.2.elim
   ·simp at e
 ·rename_i f t' y
  cases hb:Nat.beq f i with
  | false=>rw[hb]at e; simp at e
  | true =>
   rw[hb]at e; simp only[cond_true]at e;have h1:=Nat.eq_of_beq_eq_true hb;subst h1;obtain⟨rfl,rfl⟩:=zfk e;obtain⟨_,b,o,vs,rfl,hZ,hcs,hrd⟩:=hv;exact⟨⟨b,o,vs,rfl,hcs,fun Z R h1 h2 _=>⟨hZ.imp (h1 b) (h2 b),Rd.keep (fun _ _=>rfl) (fun b hb=>hb.imp (h1 b) (h2 b)) hrd⟩⟩,fun j hj=>by simp[zH]at hj⟩
 ·simp at e
theorem zjp {t:Ty} {v:V} {x:t.D} {u:Value} {sh:Sh} {h:za} (e:rpT t v=some x) (hv:VRel sh g h v u) :
  ∃b o cs,u= .pointer (some ⟨b,o,none⟩)∧zh h b o t.size=some cs∧(g.Z b∨g.R b)∧Rd h (fun b=>g.Z b∨g.R b) t x cs:=by
 unfold rpT at e;split at e
 ·rename_i z t' y off
  cases hb:Nat.beq off 0 with
  | false=>rw[hb]at e; simp at e
  | true =>
   rw[hb]at e; simp only[cond_true]at e;have h1:=Nat.eq_of_beq_eq_true hb;subst h1;obtain⟨rfl,rfl⟩:=zfk e;obtain⟨_,b,o,vs,rfl,hZ,hcs,hrd⟩:=hv;exact⟨b,o,vs,rfl,hcs,hZ.imp id (fun h=>h.2),Rd.keep (fun _ _=>rfl) (fun b hb=>hb.imp id (fun h=>h.2)) hrd⟩
 ·simp at e
theorem zeq {p:Par} {v:V} {ps:List Par} {vs:List V}: ∀k,k∈zH (p::ps) (v::vs)↔k∈zH [p] [v]∨k∈zH ps vs:=by
 intro k;cases p with
 | fn i t =>
  cases v with
  | c x =>
   cases x with
   | fn f cap =>
    match cap with
    | []=>simp[zH]
    | [(k,_)]=>simp[zH]
    | _::_::_=>simp[zH]
   | _=>simp[zH]
  | _=>simp[zH]
 | _=>simp[zH]
theorem zaP: ∀{ps:List Par} {vs:List V} {args:List Value} {s:St} {g:Gh} {X:List Nat} {k:Sh→Sh→Option (InD ps)} {sm:Sh},Rel n0 M h0 s g X a w →
  zw s.sh ps vs=some (k,sm)→VRels s.sh g (hp w) vs args →
  ∃(Z':Nat→Prop) (X' F:List Nat),(∀b,g.Z b→Z' b)∧Rel n0 M h0 { s with sh:=sm } { g with Z:=Z' } X' a w∧X'.Perm (F++X)∧sm.boxes=s.sh.boxes∧(∀k e,sm.regs k=some e→s.sh.regs k=some e) ∧
   (∀k∈zB ps vs,∃cs,s.sh.boxes k=some cs)∧(∀k∈zH ps vs,∃cs,s.sh.boxes k=some cs) ∧
   ∀ks xs,k sm (zaa ks sm)=some xs→(∀k∈zD ps vs,∃e,sm.regs k=some e) ∧
    ∃fs,(∀R:Nat→Prop,(∀b,Now { g with Z:=Z' } (zaa ks sm) b→R b)→(∀k∈zH ps vs,R (g.bx k))→ArgsOk (hp w) Z' R ps xs args fs)∧fs.flatten.Perm ((zD ps vs).flatMap g.fp++(zB ps vs).map g.bx++F)
 | [],[],[],s,g,X,k,sm,r,e,hv=>by
  simp[zw]at e; obtain⟨rfl,rfl⟩:=e;exact⟨g.Z,X,[],fun _ h=>h,r,.refl _,rfl,fun _ _ h=>h,fun k hk=>by simp[zB]at hk,fun k hk=>by simp[zH]at hk,fun ks xs _=>⟨fun k hk=>by simp[zD]at hk,[],fun _ _ _=>trivial,.refl _⟩⟩
 | .rd t::ps,x::vs,v::args,s,g,X,k,sm,r,e,hv=>by
  simp only[zw]at e;split at e
  ·rename_i cs k1 sh1 hc ha
   simp only[Option.some.injEq,Prod.mk.injEq]at e; obtain⟨rfl,rfl⟩:=e;obtain⟨Z',X',F,hz,r',hp1,hb,hr,hbx,hfx,hx⟩:=zaP r ha hv.2;refine⟨Z',X',F,hz,r',hp1,hb,hr,hbx,fun k hk=>hfx k (by simpa [zH]using hk),fun ks xs hxs=> ?_⟩;dsimp only at hxs;split at hxs
   ·rename_i y ys h1 h2
    simp at hxs; subst hxs;obtain⟨hl,fs,h3,h4⟩:=hx ks ys h2;obtain⟨⟨us,hval,hcr⟩,hrefs⟩:=zaM hc hv.1;have r2:=r'.forget s.tmps (zaa ks sh1) (fun _=> .inl rfl) (fun _ _ h=>h) (fun k e h=>(zcs k e h).1);have hcr':CRels (zaa ks sh1) { g with Z:=Z' } (hp w) cs us:=CRels.over (zbK hz) r.rg (fun c _ k _=>zaB (Z':=Z') (sh':=zaa ks sh1) hb (fun k e h=>hr k e (zcs k e h).1) k) hcr;have hrd:=zgu (s:={ s with sh:=zaa ks sh1 }) r2 h1 hcr';exact⟨hl,[]::fs,fun R hR hf=>⟨⟨us,hval,Rd.keep (fun _ _=>rfl) (fun b hb=> .inr (hR b hb)) hrd⟩,rfl,h3 R hR (fun k hk=>hf k (by simpa [zH]using hk))⟩,h4⟩
   ·simp at hxs
  ·simp at e
 | .fn i t::ps,x::vs,v::args,s,g,X,k,sm,r,e,hv=>by
  simp only[zw]at e;split at e
  ·rename_i y k1 sh1 hc ha
   simp only[Option.some.injEq,Prod.mk.injEq]at e; obtain⟨rfl,rfl⟩:=e;obtain⟨Z',X',F,hz,r',hp1,hb,hr,hbx,hfx,hx⟩:=zaP r ha hv.2;obtain⟨⟨b,o,cs,hval,hcs,hrd⟩,hone⟩:=zi6 r hc hv.1;refine⟨Z',X',F,hz,r',hp1,hb,hr,hbx,fun k hk=>((zeq k).1 hk).elim (hone k) (hfx k),fun ks xs hxs=> ?_⟩;dsimp only at hxs;split at hxs
   ·rename_i ys h2
    simp at hxs; subst hxs;obtain⟨hl,fs,h3,h4⟩:=hx ks ys h2;refine⟨hl,[]::fs,fun R hR hf=> ?_,h4⟩;obtain⟨g1,g2⟩:=hrd Z' R hz (fun b hb=>hR b (.inr (.inl hb))) (fun k hk=>hf k ((zeq k).2 (.inl hk)));exact⟨⟨b,o,cs,hval,g1,hcs,g2⟩,rfl,h3 R hR (fun k hk=>hf k ((zeq k).2 (.inr hk)))⟩
   ·simp at hxs
  ·simp at e
 | .rp t::ps,x::vs,v::args,s,g,X,k,sm,r,e,hv=>by
  simp only[zw]at e;split at e
  ·rename_i y k1 sh1 hc ha
   simp only[Option.some.injEq,Prod.mk.injEq]at e; obtain⟨rfl,rfl⟩:=e;obtain⟨Z',X',F,hz,r',hp1,hb,hr,hbx,hfx,hx⟩:=zaP r ha hv.2;obtain⟨b,o,cs,hval,hcs,hZR,hrd⟩:=zjp hc hv.1;refine⟨Z',X',F,hz,r',hp1,hb,hr,hbx,fun k hk=>hfx k (by simpa [zH]using hk),fun ks xs hxs=> ?_⟩;dsimp only at hxs;split at hxs
   ·rename_i ys h2
    simp at hxs; subst hxs;obtain⟨hl,fs,h3,h4⟩:=hx ks ys h2;have up: ∀R:Nat→Prop,(∀b,Now { g with Z:=Z' } (zaa ks sh1) b→R b)→ ∀b,g.Z b∨g.R b→Z' b∨R b:=fun R hR b hb=>hb.elim (fun h=> .inl (hz b h)) (fun h=> .inr (hR b (.inr (.inl h))))
    exact⟨hl,[]::fs,fun R hR hf=>⟨⟨b,o,cs,hval,up R hR b hZR,hcs,Rd.keep (fun _ _=>rfl) (up R hR) hrd⟩,rfl,h3 R hR (fun k hk=>hf k (by simpa [zH]using hk))⟩,h4⟩
   ·simp at hxs
  ·simp at e
 | .kp t an::ps,x::vs,v::args,s,g,X,k,sm,r,e,hv=>by
  simp only[zw]at e;split at e
  ·rename_i cs hc
   split at e
   ·rename_i y sh1 hm
    split at e
    ·rename_i k1 sh2 ha
     simp only[Option.some.injEq,Prod.mk.injEq]at e; obtain⟨rfl,rfl⟩:=e;obtain⟨⟨us,hval,hcr⟩,hrefs⟩:=zaM hc hv.1;obtain⟨Z1,f,X1,hz1,r1,hp1,ho⟩:=zbr r hm hcr;obtain⟨sb,sr⟩:=zbe hm;obtain⟨Z',X',F,hz,r',hp2,hb,hr,hbx,hfx,hx⟩:=zaP r1 ha (VRels.over (zbK hz1) r.rg (fun k=>zaB sb sr k) hv.2)
     refine⟨Z',X',F++f,fun b h=>hz b (hz1 b h),r',?_,hb.trans sb,fun k e he=>sr k e (hr k e he),fun k hk=>by
      obtain⟨cs,h⟩:=hbx k hk;exact⟨cs,by rw[← sb]; exact h⟩,fun k hk=>by
      obtain⟨cs,h⟩:=hfx k (by simpa [zH]using hk)
      exact⟨cs,by rw[← sb]; exact h⟩,fun ks xs hxs=> ?_⟩
     ·refine hp2.trans ?_
      rw[List.append_assoc];exact List.Perm.append_left _ hp1
     dsimp only at hxs;split at hxs
     ·rename_i ys h2
      simp at hxs; subst hxs;obtain⟨hl,fs,h3,h4⟩:=hx ks ys h2;refine⟨hl,f::fs,fun R hR hf=>⟨⟨us,hval,Own.keep (fun _ _=>rfl) hz (fun _ _=>rfl) ho⟩,h3 R hR (fun k hk=>hf k (by simpa [zH]using hk))⟩,?_⟩;have h5:List.Perm fs.flatten (List.flatMap g.fp (zD ps vs)++List.map g.bx (zB ps vs)++F):=h4;show List.Perm (f::fs).flatten (List.flatMap g.fp (zD ps vs)++List.map g.bx (zB ps vs)++(F++f));rw[List.perm_iff_count]at h5 ⊢;intro z;have:=h5 z;simp only[List.count_append,List.flatten_cons]at this ⊢;omega
     ·simp at hxs
    ·simp at e
   ·simp at e
  ·simp at e
 | .mt t an::ps,x::vs,v::args,s,g,X,k,sm,r,e,hv=>by
  simp only[zw]at e;split at e
  ·rename_i cs k1 sh1 hc ha
   simp only[Option.some.injEq,Prod.mk.injEq]at e; obtain⟨rfl,rfl⟩:=e;obtain⟨Z',X',F,hz,r',hp1,hb,hr,hbx,hfx,hx⟩:=zaP r ha hv.2;refine⟨Z',X',F,hz,r',hp1,hb,hr,hbx,fun k hk=>hfx k (by simpa [zH]using hk),fun ks xs hxs=> ?_⟩;dsimp only at hxs;split at hxs
   ·rename_i y ys h1 h2
    simp at hxs; subst hxs;obtain⟨hl,fs,h3,h4⟩:=hx ks ys h2;obtain⟨⟨us,hval,hcr⟩,hrefs⟩:=zaM hc hv.1;have hcr':CRels sh1 { g with Z:=Z' } (hp w) cs us:=CRels.over (zbK hz) r.rg (fun c _ k _=>zaB (Z':=Z') hb hr k) hcr;obtain⟨how,hlk⟩:=zhS r' h1 hcr';refine⟨fun k hk=> ?_,(zS cs).flatMap g.fp::fs,fun R hR hf=>⟨⟨us,hval,how⟩,h3 R hR (fun k hk=>hf k (by simpa [zH]using hk))⟩,?_⟩
    ·simp only[zD,hc,List.mem_append]at hk
     exact hk.elim (hlk k) (hl k)
    ·simp only[List.flatten_cons,zD,hc,zB,List.flatMap_append,List.append_assoc]
     refine List.Perm.append_left _ ?_;simpa using h4
   ·simp at hxs
  ·simp at e
 | .pt t an::ps,x::vs,v::args,s,g,X,k,sm,r,e,hv=>by
  simp only[zw]at e;split at e
  ·rename_i bk off
   cases hoff:Nat.beq off 0 with
   | false=>rw[hoff]at e; simp at e
   | true =>
    have:=Nat.eq_of_beq_eq_true hoff;subst this;rw[hoff]at e; simp only[cond_true]at e;split at e
    ·rename_i cs hcs
     split at e
     ·rename_i y sh1 hm
      split at e
      ·rename_i k1 sh2 ha
       simp only[Option.some.injEq,Prod.mk.injEq]at e; obtain⟨rfl,rfl⟩:=e;have hval:v= .pointer (some ⟨g.bx bk,0,none⟩):=hv.1.2 cs hcs;obtain⟨c,T,hblk,hcr⟩:=r.bx bk cs hcs;obtain⟨Z1,f,X1,hz1,r1,hp1,ho⟩:=zbr r hm hcr;obtain⟨sb,sr⟩:=zbe hm;obtain⟨Z',X',F,hz,r',hp2,hb,hr,hbx,hfx,hx⟩:=zaP r1 ha (VRels.over (zbK hz1) r.rg (fun k=>zaB sb sr k) hv.2)
       refine⟨Z',X',F++f,fun b h=>hz b (hz1 b h),r',?_,hb.trans sb,fun k e he=>sr k e (hr k e he),fun k hk=> ?_,fun k hk=>by
        obtain⟨cs,h⟩:=hfx k (by simpa [zH]using hk)
        exact⟨cs,by rw[← sb]; exact h⟩,fun ks xs hxs=> ?_⟩
       ·refine hp2.trans ?_
        rw[List.append_assoc];exact List.Perm.append_left _ hp1
       ·simp only[zB,List.mem_cons]at hk
        rcases hk with rfl | hk
        ·exact⟨cs,hcs⟩
        ·obtain⟨cs',h⟩:=hbx k hk
         exact⟨cs',by rw[← sb]; exact h⟩
       ·dsimp only at hxs
        split at hxs
        ·rename_i ys h2
         simp at hxs; subst hxs;obtain⟨hl,fs,h3,h4⟩:=hx ks ys h2;refine⟨hl,(g.bx bk::f)::fs,fun R hR hf=>⟨⟨g.bx bk,c,T,f,hval,hblk,Own.keep (fun _ _=>rfl) hz (fun _ _=>rfl) ho,rfl⟩,h3 R hR (fun k hk=>hf k (by simpa [zH]using hk))⟩,?_⟩;simp only[List.flatten_cons,zB,List.map_cons,zD];have h5:List.Perm fs.flatten (List.flatMap g.fp (zD ps vs)++List.map g.bx (zB ps vs)++F):=h4;rw[List.perm_iff_count]at h5 ⊢;intro z;have:=h5 z;simp only[List.count_append,List.count_cons]at this ⊢;omega
        ·simp at hxs
      ·simp at e
     ·simp at e
    ·simp at e
  ·simp at e
 | _::_,[],_,_,_,_,_,_,_,e,_=>by simp[zw]at e
 | [],_::_,_,_,_,_,_,_,_,e,_=>by simp[zw]at e
 | [],[],_::_,_,_,_,_,_,_,_,hv=>hv.elim
 | _::_,_::_,[],_,_,_,_,_,_,_,hv=>hv.elim
end
def zbT:List Par→List (List Nat)→List Nat
 | .pt _ _::ps,f::fs=>f.tail++zbT ps fs
 | _::ps,_::fs=>zbT ps fs
 | _,_=> []
section
variable {P:Program} {E:Env} {n0:Nat} {M:Nat→Prop} {h0:Home} {s s':St} {g:Gh} {X:List Nat} {a:Act} {w:World} {o:Oper}
abbrev LL:=List (Nat×Entry×List Nat)
theorem zdY {h:za} {Z:Nat→Prop} {d:LD} {an:Ann} {ad:Option Addr} {n c:Nat} {f:List Nat} (e:OwnL h Z d an (.slice ad n c) f): ∃t l,d= .sl t l:=by
 cases d with
 | int k n=>obtain⟨⟨h,_⟩,_⟩:=e; simp at h
 | bool b=>obtain⟨h,_⟩:=e; simp only[Rd]at h; simp at h
 | sl t l=>exact⟨t,l,rfl⟩
theorem zcD: ∀(t:Ty),t.leaves.length=t.size
 | .int _=>rfl
 | .bool=>rfl
 | .sl _=>rfl
 | .pr a b=>by simp[Ty.leaves,Ty.size,zcD a,zcD b]
 | .st _ t=>zcD t
theorem zfJ {sm:Sh}: ∀{as:List Ann} {ts:List Ty} {cs:List C} {ds:List LD},zP sm as ts cs=some ds→ts.length=cs.length
 | [],[],[],_,_=>rfl
 | _::_,_::_,_::_,_,e=>by
  simp only[zP]at e;split at e
  ·rename_i hh; simp[zfJ hh]
  ·simp at e
 | [],_::_,_,_,e=>by simp[zP]at e
 | [],[],_::_,_,e=>by simp[zP]at e
 | _::_,[],_,_,e=>by simp[zP]at e
 | _::_,_::_,[],_,e=>by simp[zP]at e
theorem OwnLs.cells {h:za} {Z:Nat→Prop}: ∀{ds:List LD} {as:List Ann} {vs:List Value} {fs:List (List Nat)},OwnLs h Z ds as vs fs→ ∀v∈vs,zR v
 | [],[],[],[],_,v,hv=>by simp at hv
 | d::ds,a::as,v::vs,f::fs,e,u,hu=>by
  rcases List.mem_cons.1 hu with rfl | hu
  ·have h1:=e.1
   cases d with
   | int k n=>obtain⟨⟨h2,_⟩,_⟩:=h1; simp at h2; subst h2; trivial
   | bool b=>obtain⟨h2,_⟩:=h1; simp only[Rd]at h2; simp at h2; subst h2; trivial
   | sl t l =>
    have h3:Own h Z (.sl t) a l [u] f:=h1;have:=Own.rd (Z':=fun b=>Z b∨b∈f) (fun _ h=> .inl h) (fun _ h=> .inr h) h3;exact zca this
  ·exact OwnLs.cells e.2 u hu
theorem zeh {sm:Sh} {h h':za} {Z':Nat→Prop} (hreg: ∀k e,sm.regs k=some e→Own h g.Z (.sl e.pk.t) (.ow e.pk.a) e.pk.l [g.hd k] (g.fp k)) :
  ∀{as:List Ann} {ts:List Ty} {cs:List C} {ds ds':List LD} {vs:List Value} {fs:List (List Nat)},zP sm as ts cs=some ds→CRels sm g h cs vs→OwnLs h' Z' ds' as vs fs →
  ∃L:LL,L.map (fun p=>(p.1,p.2.1))=zaZ sm as cs ds'∧L.map (·.1)=zS cs∧L.flatMap (·.2.2)=fs.flatten ∧
   ∀p∈L,(∃e0,sm.regs p.1=some e0∧e0.ver<p.2.1.ver)∧Own h' Z' (.sl p.2.1.pk.t) (.ow p.2.1.pk.a) p.2.1.pk.l [g.hd p.1] p.2.2
 | [],[],[],ds,[],[],[],e,hv,ho=>⟨[],rfl,rfl,rfl,fun p hp=>by simp at hp⟩
 | an::as,t::ts,c::cs,ds,d'::ds',v::vs,f::fs,e,hv,ho=>by
  simp only[zP]at e;split at e
  ·rename_i d ds1 h1 h2
   simp at e; subst e;obtain⟨L,e1,e2,e3,e4⟩:=zeh hreg h2 hv.2 ho.2;have hv1:=hv.1;have ho1:=ho.1
   have plain:f= []→zS (c::cs)=zS cs→zaZ sm (an::as) (c::cs) (d'::ds')=zaZ sm as cs ds' →
     ∃L:LL,L.map (fun p=>(p.1,p.2.1))=zaZ sm (an::as) (c::cs) (d'::ds')∧L.map (·.1)=zS (c::cs)∧L.flatMap (·.2.2)=(f::fs).flatten ∧
     ∀p∈L,(∃e0,sm.regs p.1=some e0∧e0.ver<p.2.1.ver)∧Own h' Z' (.sl p.2.1.pk.t) (.ow p.2.1.pk.a) p.2.1.pk.l [g.hd p.1] p.2.2:=by
    intro hf hl hb;exact⟨L,by rw[hb]; exact e1,by rw[hl]; exact e2,by rw[hf]; simpa using e3,e4⟩
   have back1: ∀c',(∀k,c'≠ .at k)→zaZ sm (an::as) (c'::cs) (d'::ds')=zaZ sm as cs ds':=by
    intro c' hc';cases c' with
    | «at» k=>exact absurd rfl (hc' k)
    | _=>cases an<;>cases d'<;>rfl
   cases c<;>simp only[zeS]at h1
   case int k n =>
    obtain⟨rfl,_⟩:=hv1;refine plain ?_ rfl (back1 _ (by simp));cases d' with
    | int k' n'=>exact ho1.2
    | bool b=>exact ho1.2
    | sl t' l' =>
     exfalso;have h3:Own h' Z' (.sl t') an l' [Value.int k n] f:=ho1;have:=Own.rd (Z':=fun b=>Z' b∨b∈f) (fun _ h=> .inl h) (fun _ h=> .inr h) h3;obtain⟨_,_,h4,_⟩:=this;simp at h4
   case bool b =>
    simp only[CRel]at hv1;subst hv1;refine plain ?_ rfl (back1 _ (by simp));cases d' with
    | int k' n'=>exact ho1.2
    | bool b=>exact ho1.2
    | sl t' l' =>
     exfalso;have h3:Own h' Z' (.sl t') an l' [Value.bool b] f:=ho1;have:=Own.rd (Z':=fun b=>Z' b∨b∈f) (fun _ h=> .inl h) (fun _ h=> .inr h) h3;obtain⟨_,_,h4,_⟩:=this;simp at h4
   case nil =>
    simp only[CRel]at hv1;subst hv1;refine plain ?_ rfl (back1 _ (by simp));obtain⟨t',l',rfl⟩:=zdY ho1;have h3:Own h' Z' (.sl t') an l' [Value.slice none 0 0] f:=ho1;cases an with
    | fz=>exact h3.2
    | pr _ _=>exact h3.2
    | ow a' =>
     obtain⟨hd,cap,h4,_,_,h5⟩:=h3;rcases h5 with⟨_,_,_,h6⟩ | ⟨b,o,c,T,fps,h6,_⟩
     ·exact h6
     ·rw[h6]at h4; simp at h4
   case fz u l =>
    split at h1
    ·simp at h1
    ·rename_i hn
     refine plain ?_ rfl (back1 _ (by simp));obtain⟨ad,cap,hv2,_⟩:=id hv1;simp at hv2; subst hv2;obtain⟨t',l',rfl⟩:=zdY ho1;have h3:Own h' Z' (.sl t') an l' [Value.slice ad l.length cap] f:=ho1;cases an with
     | fz=>exact h3.2
     | pr _ _=>exact h3.2
     | ow a'=>exact absurd rfl (hn a')
   case «at» k =>
    split at h1
    ·rename_i a'
     split at h1
     ·rename_i en hen
      have hv2:=hv1.2 en hen;subst hv2;obtain⟨ad,cap,hhd,_⟩:=zci (hreg k en hen);have ho2:=ho1;rw[hhd]at ho2;obtain⟨t',l',rfl⟩:=zdY ho2;refine⟨(k,⟨⟨t',a',l'⟩,en.ver+1⟩,f)::L,?_,?_,?_,fun p hp=> ?_⟩
      ·simp only[List.map_cons,e1,zaZ,hen]
      ·simp only[List.map_cons,e2,zS]
      ·simp only[List.flatMap_cons,e3,List.flatten_cons]
      ·rcases List.mem_cons.1 hp with rfl | hp
       ·exact⟨⟨en,hen,Nat.lt_succ_self _⟩,ho1⟩
       ·exact e4 p hp
     ·simp at h1
    ·simp at h1
   all_goals simp at h1
  ·simp at e
 | [],[],[],_,_::_,_,_,_,_,ho=>by cases ho
 | [],[],[],_,[],_::_,_,_,hv,_=>hv.elim
 | [],[],[],_,[],[],_::_,_,_,ho=>by cases ho
 | [],_::_,_,_,_,_,_,e,_,_=>by simp[zP]at e
 | [],[],_::_,_,_,_,_,e,_,_=>by simp[zP]at e
 | _::_,[],_,_,_,_,_,e,_,_=>by simp[zP]at e
 | _::_,_::_,[],_,_,_,_,e,_,_=>by simp[zP]at e
 | _::_,_::_,_::_,_,[],_,_,_,_,ho=>by cases ho
 | _::_,_::_,_::_,_,_::_,[],_,_,hv,_=>hv.elim
 | _::_,_::_,_::_,_,_::_,_::_,[],_,_,ho=>by cases ho
theorem zbq {s0 sm:Sh} {h h':za} {Z Z' R:Nat→Prop} {sr:Sh} (hreg: ∀k e,sm.regs k=some e→Own h g.Z (.sl e.pk.t) (.ow e.pk.a) e.pk.l [g.hd k] (g.fp k))
  (hbox: ∀k cs,sm.boxes k=some cs→ ∃c T,h (g.bx k)=some (.cells c T (0,0))∧c.toList.length=cs.length) :
  ∀{ps:List Par} {vs:List V} {args:List Value} {sh:Sh} {k:Sh→Sh→Option (InD ps)} {xs:InD ps} {m:zak ps} {fs ms:List (List Nat)},zw sh ps vs=some (k,s0)→sh.boxes=sm.boxes→k sm sr=some xs →
   VRels sm g h vs args→ArgsOk h Z R ps xs args fs→zbY h' Z' ps m args ms →
   ∃L:LL,L.map (fun p=>(p.1,p.2.1))=zaH sm ps vs m∧L.map (·.1)=zD ps vs∧ms.flatten.Perm (L.flatMap (·.2.2)++((zB ps vs).map g.bx++zbT ps ms)) ∧
    (∀p∈L,(∃e0,sm.regs p.1=some e0∧e0.ver<p.2.1.ver)∧Own h' Z' (.sl p.2.1.pk.t) (.ow p.2.1.pk.a) p.2.1.pk.l [g.hd p.1] p.2.2) ∧
    ∀k∈zB ps vs,∃cs c T,sm.boxes k=some cs∧h' (g.bx k)=some (.cells c T (0,0))∧c.toList.length=cs.length∧ ∀v∈c.toList,zR v
 | [],[],[],sh,k,xs,m,fs,[],e,hsb,hk,hv,ha,hm=>⟨[],rfl,rfl,.refl _,fun p hp=>by simp at hp,fun k hk=>by simp[zB]at hk⟩
 | .rd t::ps,x::vs,v::args,sh,k,xs,m,f::fs,f'::ms,e,hsb,hk,hv,ha,hm=>by
  simp only[zw]at e;split at e
  ·rename_i cs k1 sh1 hc hargs
   simp only[Option.some.injEq,Prod.mk.injEq]at e; obtain⟨rfl,rfl⟩:=e;dsimp only at hk;split at hk
   ·rename_i y ys h1 h2
    simp at hk; subst hk;obtain⟨rfl,hm⟩:=hm;obtain⟨L,e1,e2,e3,e4,e5⟩:=zbq (ps:=ps) (m:=m) hreg hbox hargs hsb h2 hv.2 ha.2.2 hm;exact⟨L,e1,e2,e3,e4,e5⟩
   ·simp at hk
  ·simp at e
 | .fn i t::ps,x::vs,v::args,sh,k,xs,m,f::fs,f'::ms,e,hsb,hk,hv,ha,hm=>by
  simp only[zw]at e;split at e
  ·rename_i y0 k1 sh1 hc hargs
   simp only[Option.some.injEq,Prod.mk.injEq]at e; obtain⟨rfl,rfl⟩:=e;dsimp only at hk;split at hk
   ·rename_i ys h2
    simp at hk; subst hk;obtain⟨rfl,hm⟩:=hm;obtain⟨L,e1,e2,e3,e4,e5⟩:=zbq (ps:=ps) (m:=m) hreg hbox hargs hsb h2 hv.2 ha.2.2 hm;exact⟨L,e1,e2,e3,e4,e5⟩
   ·simp at hk
  ·simp at e
 | .rp t::ps,x::vs,v::args,sh,k,xs,m,f::fs,f'::ms,e,hsb,hk,hv,ha,hm=>by
  simp only[zw]at e;split at e
  ·rename_i y0 k1 sh1 hc hargs
   simp only[Option.some.injEq,Prod.mk.injEq]at e; obtain⟨rfl,rfl⟩:=e;dsimp only at hk;split at hk
   ·rename_i ys h2
    simp at hk; subst hk;obtain⟨rfl,hm⟩:=hm;obtain⟨L,e1,e2,e3,e4,e5⟩:=zbq (ps:=ps) (m:=m) hreg hbox hargs hsb h2 hv.2 ha.2.2 hm;exact⟨L,e1,e2,e3,e4,e5⟩
   ·simp at hk
  ·simp at e
 | .kp t an::ps,x::vs,v::args,sh,k,xs,m,f::fs,f'::ms,e,hsb,hk,hv,ha,hm=>by
  simp only[zw]at e;split at e
  ·split at e
   ·rename_i y sh1 hmv
    split at e
    ·rename_i k1 sh2 hargs
     simp only[Option.some.injEq,Prod.mk.injEq]at e; obtain⟨rfl,rfl⟩:=e;dsimp only at hk;split at hk
     ·rename_i ys h2
      simp at hk; subst hk;obtain⟨rfl,hm⟩:=hm;obtain⟨L,e1,e2,e3,e4,e5⟩:=zbq (ps:=ps) (m:=m) hreg hbox hargs ((zbe hmv).1.trans hsb) h2 hv.2 ha.2 hm;exact⟨L,e1,e2,e3,e4,e5⟩
     ·simp at hk
    ·simp at e
   ·simp at e
  ·simp at e
 | .mt t an::ps,x::vs,v::args,sh,k,xs,m,f::fs,f'::ms,e,hsb,hk,hv,ha,hm=>by
  simp only[zw]at e;split at e
  ·rename_i cs k1 sh1 hc hargs
   simp only[Option.some.injEq,Prod.mk.injEq]at e; obtain⟨rfl,rfl⟩:=e;dsimp only at hk;split at hk
   ·rename_i y ys h1 h2
    simp at hk; subst hk;obtain⟨⟨us',hval',how'⟩,hm⟩:=hm;obtain⟨L,e1,e2,e3,e4,e5⟩:=zbq (m:=m.2) hreg hbox hargs hsb h2 hv.2 ha.2 hm;obtain⟨⟨us,hval,hcr⟩,_⟩:=zaM hc hv.1;unfold zdQ at h1;split at h1
    ·rename_i ds hl
     have hus:us'=us:=by
      have hlen':=Own.len how';rw[hval]at hval';unfold zaj at hval';cases hst:t.isSt with
      | true=>rw[hst]at hval'; simpa using hval'.symm
      | false =>
       rw[hst]at hval'
       have hlc:cs.length=1:=by
        unfold zy at hc;rw[hst]at hc;split at hc<;>simp at hc;subst hc; rfl
       have hlu:=CRels.len hcr;rw[hlc]at hlu;have hts:t.size=1:=by rw[← zcD,zfJ hl,hlc]
       rw[hts]at hlen'
       match us,us',hlu,hlen',hval' with
       | [a],[b],_,_,h=>simp at h; rw[h]
     subst hus;obtain⟨fs',rfl,hol⟩:=zE.1 how';obtain⟨L1,l1,l2,l3,l4⟩:=zeh hreg hl hcr hol;refine⟨L1++L,?_,?_,?_,fun p hp=>(List.mem_append.1 hp).elim (l4 p) (e4 p),e5⟩
     ·simp only[List.map_append,l1,e1,zaH,hc]
     ·simp only[List.map_append,l2,e2,zD,hc]
     ·simp only[List.flatten_cons,List.flatMap_append,l3,zbT,zB,List.append_assoc]
      exact List.Perm.append_left _ (by simpa using e3)
    ·simp at h1
   ·simp at hk
  ·simp at e
 | .pt t an::ps,x::vs,v::args,sh,k,xs,m,f::fs,f'::ms,e,hsb,hk,hv,ha,hm=>by
  simp only[zw]at e;split at e
  ·rename_i bk off
   cases hoff:Nat.beq off 0 with
   | false=>rw[hoff]at e; simp at e
   | true =>
    have:=Nat.eq_of_beq_eq_true hoff;subst this;rw[hoff]at e; simp only[cond_true]at e;split at e
    ·rename_i cs hcs
     split at e
     ·rename_i y sh1 hmv
      split at e
      ·rename_i k1 sh2 hargs
       simp only[Option.some.injEq,Prod.mk.injEq]at e; obtain⟨rfl,rfl⟩:=e;dsimp only at hk;split at hk
       ·rename_i ys h2
        simp at hk; subst hk;obtain⟨⟨b,c',T',f2,hv1,hblk',how',rfl⟩,hm⟩:=hm;obtain⟨⟨b0,c0,T0,f0,hv0,hblk0,how0,rfl⟩,ha2⟩:=ha;obtain⟨L,e1,e2,e3,e4,e5⟩:=zbq (m:=m.2) hreg hbox hargs ((zbe hmv).1.trans hsb) h2 hv.2 ha2 hm;rw[hsb]at hcs;have hvx:v= .pointer (some ⟨g.bx bk,0,none⟩):=hv.1.2 cs hcs;rw[hvx]at hv1 hv0;simp at hv1 hv0;subst hv1 hv0;obtain⟨c1,T1,hb1,hl1⟩:=hbox bk cs hcs;rw[hblk0]at hb1;simp at hb1;refine⟨L,e1,e2,?_,e4,fun k hk=> ?_⟩
        ·simp only[List.flatten_cons,zB,List.map_cons,zbT,List.tail_cons]
         have h5:List.Perm ms.flatten (List.flatMap (·.2.2) L++(List.map g.bx (zB ps vs)++zbT ps ms)):=e3;rw[List.perm_iff_count]at h5 ⊢;intro z;have:=h5 z;simp only[List.count_append,List.count_cons]at this ⊢;omega
        ·simp only[zB,List.mem_cons]at hk
         rcases hk with rfl | hk
         ·refine⟨cs,c',T',hcs,hblk',?_,?_⟩
          ·rw[← hl1,← hb1.1,Own.len how',Own.len how0]
          ·obtain⟨fs',_,hol⟩:=zE.1 how'
           exact OwnLs.cells hol
         ·exact e5 k hk
       ·simp at hk
      ·simp at e
     ·simp at e
    ·simp at e
  ·simp at e
 | _::_,[],_,_,_,_,_,_,_,e,_,_,_,_,_=>by simp[zw]at e
 | [],_::_,_,_,_,_,_,_,_,e,_,_,_,_,_=>by simp[zw]at e
 | [],[],_::_,_,_,_,_,_,_,_,_,_,hv,_,_=>hv.elim
 | _::_,_::_,[],_,_,_,_,_,_,_,_,_,hv,_,_=>hv.elim
 | [],[],[],_,_,_,_,_,_::_,_,_,_,_,_,hm=>by cases hm
 | p::ps,_::_,_::_,_,_,_,_,[],_,_,_,_,_,ha,_=>by cases p<;>cases ha
 | p::ps,_::_,_::_,_,_,_,_,_::_,[],_,_,_,_,_,hm=>by cases p<;>cases hm
end
section
variable {b:Nat} {P:Program} {E:Env} {n0:Nat} {M:Nat→Prop} {h0:Home} {s s':St} {g:Gh} {X:List Nat} {a:Act} {w:World} {o:Oper}
theorem VRel1.of {sh:Sh} {h:za} {t:Ty} {cs:List C} {vs:List Value} (hc:CRels sh g h cs vs) (hs:(t.isSt||Nat.beq cs.length 1)=true):VRel1 sh g h (t.isSt,cs) (zaj t vs):=by
 unfold zaj;cases ht:t.isSt with
 | true=>exact⟨vs,rfl,hc⟩
 | false =>
  rw[ht]at hs;have hl:=Nat.eq_of_beq_eq_true (show Nat.beq cs.length 1=true from hs)
  match cs,vs,hc,hl with
  | [c],[v],hc,_=>exact hc.1
theorem zdm (r:Rel n0 M h0 s g (b::X) a w) {k:Nat} {cs:List C} {c:Array Value} {T:TypeId} (e:zQ s k cs=some s') (hb:hp w b=some (.cells c T (0,0)))
  (hc:CRels s.sh g (hp w) cs c.toList) (hu: ∀x∈cs,∀j∈x.refs,s.used j=true) :
  ∃g',g'.Z=g.Z∧Rel n0 M h0 s' g' X a w∧CRel s'.sh g' (hp w) (.ptr k 0) (.pointer (some ⟨b,0,none⟩))∧s'.used k=true∧Keeps s s' g g' (hp w):=by
 unfold zQ at e;cases hs:s.used k with
 | true=>rw[hs]at e; simp at e
 | false =>
  rw[hs]at e; simp at e; subst e;have nk: ∀j,s.used j=true→j≠k:=fun j hj e=>by subst e; rw[hs]at hj; simp at hj
  have r2:=r.claimBox (k:=k) hs rfl hb hc hu;refine⟨{ g with bx:=zg g.bx k b },rfl,r2,⟨trivial,fun c hc=>by simp[zx]⟩,zx _ _ _,fun j hj=>zbu hj,fun cs' vs' h hu'=> ?_,fun j hj=>zt _ _ (nk j hj),fun j cs' h=> ?_,rfl⟩
  ·refine CRels.over (g:=g) (g':={ g with bx:=zg g.bx k b }) ⟨fun _ h=>h,fun _ h=>h,fun _ _=>rfl,fun _ _=>rfl⟩ r.rg (fun c hc j hj=>⟨fun x hx=> ?_,fun e he=>⟨e,he,rfl,Nat.le_refl _,fun _=>⟨rfl,fun _ _=>rfl⟩⟩⟩) h
   have hne:=nk j (hu' c hc j hj);change zg s.sh.boxes k (some cs) j=some x at hx;rw[zt _ _ hne]at hx;exact⟨⟨x,hx⟩,zt _ _ hne⟩
  ·by_cases hj:j=k
   ·subst hj; exact⟨cs,zx _ _ _⟩
   ·exact⟨cs',by rw[← h]; exact zt _ _ hj⟩
theorem zd5: ∀{os:List OT} {x:zaY os} {s s':St} {g:Gh} {X X':List Nat} {key:Nat} {l:List (Bool×List C)} {vs:List Value} {ds:List (List Nat)},Rel n0 M h0 s g X a w →
  zaJ s key os x=some (l,s')→zdD (hp w) g.Z os x vs ds→X.Perm (ds.flatten++X') →
  ∃g',g'.Z=g.Z∧Rel n0 M h0 s' g' X' a w∧VRel1s s'.sh g' (hp w) l vs∧(∀p∈l,∀c∈p.2,∀k∈c.refs,s'.used k=true)∧Keeps s s' g g' (hp w)
 | [],x,s,s',g,X,X',key,l,[],[],r,e,ho,hp'=>by
  simp[zaJ]at e; obtain⟨rfl,rfl⟩:=e;exact⟨g,rfl,r.dropExt (fp:= []) (by simpa using hp'),trivial,fun p hp=>by simp at hp,Keeps.refl _ _ _⟩
 | ⟨false,t,an⟩::os,x,s,s',g,X,X',key,l,v::vs,d::ds,r,e,ho,hp'=>by
  simp only[zaJ]at e;split at e
  ·rename_i cs s1 h1
   cases hb:(t.isSt||Nat.beq cs.length 1)with
   | true =>
    rw[hb]at e; simp only[cond_true]at e;split at e
    ·rename_i l1 s2 h2
     simp at e; obtain⟨rfl,rfl⟩:=e;obtain⟨⟨us,rfl,how⟩,ho2⟩:=ho;obtain⟨fs,rfl,hol⟩:=zE.1 how;obtain⟨g1,hz1,r1,hc1,hu1,k1⟩:=zag (X':=ds.flatten++X') r h1 hol (by simpa using hp');obtain⟨g2,hz2,r2,hv2,hu2,k2⟩:=zd5 r1 h2 (by rw[hz1]; exact ho2) (.refl _);refine⟨g2,hz2.trans hz1,r2,⟨VRel1.of (k2.2.1 _ _ hc1 hu1) hb,hv2⟩,fun p hp c hc k hk=> ?_,k1.trans k2⟩;rcases List.mem_cons.1 hp with rfl | hp
     ·exact k2.1 k (hu1 c hc k hk)
     ·exact hu2 p hp c hc k hk
    ·simp at e
   | false=>rw[hb]at e; simp at e
  ·simp at e
 | ⟨true,t,an⟩::os,x,s,s',g,X,X',key,l,v::vs,d::ds,r,e,ho,hp'=>by
  simp only[zaJ]at e;split at e
  ·rename_i cs s1 h1
   split at e
   ·rename_i s2 hbx
    split at e
    ·rename_i l1 s3 h2
     simp at e; obtain⟨rfl,rfl⟩:=e;obtain⟨⟨b,c,T,f',rfl,hblk,how,rfl⟩,ho2⟩:=ho;obtain⟨fs,rfl,hol⟩:=zE.1 how
     obtain⟨g1,hz1,r1,hc1,hu1,k1⟩:=zag (X':=b::(ds.flatten++X')) r h1 hol (by
      rw[List.perm_iff_count]at hp' ⊢;intro z;have:=hp' z;simp only[List.flatten_cons,List.count_append,List.count_cons]at this ⊢
      omega)
     obtain⟨g2,hz2,r2,hc2,hu2,k2⟩:=zdm r1 hbx hblk hc1 hu1;obtain⟨g3,hz3,r3,hv3,hu3,k3⟩:=zd5 r2 h2 (by rw[hz2,hz1]; exact ho2) (.refl _)
     refine⟨g3,(hz3.trans hz2).trans hz1,r3,⟨(k3.2.1 [.ptr (key+t.size) 0] [_] ⟨hc2,trivial⟩ (fun c hc k hk=>by
      simp at hc; subst hc; simp[C.refs]at hk; subst hk; exact hu2)).1,hv3⟩,fun p hp c hc k hk=> ?_,(k1.trans k2).trans k3⟩
     rcases List.mem_cons.1 hp with rfl | hp
     ·simp at hc; subst hc; simp[C.refs]at hk; subst hk; exact k3.1 _ hu2
     ·exact hu3 p hp c hc k hk
    ·simp at e
   ·simp at e
  ·simp at e
 | [],_,_,_,_,_,_,_,_,_::_,_,_,_,ho,_=>by cases ho
 | [],_,_,_,_,_,_,_,_,[],_::_,_,_,ho,_=>by cases ho
 | _::_,_,_,_,_,_,_,_,_,[],_,_,_,ho,_=>by cases ho
 | _::_,_,_,_,_,_,_,_,_,_::_,[],_,_,ho,_=>by cases ho
theorem ziU {sh:Sh} {h:za} {l:List (Bool×List C)} {vs:List Value} (e:VRel1s sh g h l vs):VRel sh g h (zjW l) (zeH vs)∧ ∀k∈(zjW l).refs,∃p∈l,∃c∈p.2,k∈c.refs:=by
 have gen:VRel sh g h (.tup l) (.tuple vs.toArray)∧ ∀k∈(V.tup l).refs,∃p∈l,∃c∈p.2,k∈c.refs:=by
  refine⟨⟨vs,rfl,e⟩,fun k hk=> ?_⟩;simp only[V.refs,List.mem_flatMap]at hk;exact hk
 match l,vs,e with
 | [],[],_=>exact gen
 | [(ag,cs)],[v],e =>
  have h1:=e.1;cases ag with
  | true =>
   obtain⟨us,rfl,hc⟩:=h1
   exact⟨⟨us,rfl,hc⟩,fun k hk=>by
    have:k∈(V.agg cs).refs:=hk;simp only[V.refs,List.mem_flatMap]at this;obtain⟨c,hc,hk⟩:=this
    exact⟨_,List.mem_cons_self,c,hc,hk⟩⟩
  | false =>
   match cs,h1 with
   | [c],h1=>exact⟨h1,fun k hk=>⟨_,List.mem_cons_self,c,List.mem_cons_self,hk⟩⟩
 | _::_::_,_::_::_,_=>exact gen
theorem zeI {f:FuncId} {args:Array Value} (h: ∃fn,P.funcs[f]? =some fn∧(fn.name== "runtime.NumGoroutine")=false∧fn.body.isNone=false) :
    (callFunc f args).run P w= .ok (.enter f args) w:=by
  obtain⟨fn,h1,h2,h3⟩:=h
  have h2': ¬fn.name= "runtime.NumGoroutine" :=by simpa using h2
  have h3': ¬fn.body=none:=by
    intro h; rw[h]at h3; simp at h3
  simp[callFunc,h1,h2',h3']
structure GOk (P:Program) (E:Env):Prop where
 con: ∀f con,E.G f=some con→ConOk P f con
theorem zh1 {b:Nat} {c:Array Value} {T:TypeId} (h:hp w b=some (.cells c T (0,0))):World.setBlk w b c T=w:=by
 unfold World.setBlk;have h1:w.heap[b]? =some (.cells c T (0,0)):=h
 have:w.heap.setIfInBounds b (.cells c T (0,0))=w.heap:=by
  apply Array.ext_getElem?;intro i;rw[Array.getElem?_setIfInBounds];by_cases hi:b=i
  ·subst hi
   rw[if_pos rfl,h1]
   have:b<w.heap.size:=by
    rcases Nat.lt_or_ge b w.heap.size with h2 | h2
    ·exact h2
    ·rw[Array.getElem?_eq_none h2]at h1; simp at h1
   rw[if_pos this]
  ·rw[if_neg hi]
 rw[this]
theorem Rel.relabel (r:Rel n0 M h0 s g X a w) {k:Nat} {cs ds:List C} {c:Array Value} {T:TypeId} (hk:s.sh.boxes k=some cs) (hb:hp w (g.bx k)=some (.cells c T (0,0)))
  (hc:CRels s.sh g (hp w) ds c.toList) (hu: ∀x∈ds,∀j∈x.refs,s.used j=true) :
  Rel n0 M h0 { s with sh:={ s.sh with boxes:=zg s.sh.boxes k (some ds) } } g X a w∧Keeps s { s with sh:={ s.sh with boxes:=zg s.sh.boxes k (some ds) } } g g (hp w):=by
 have h1:=r.storeBox hk hb hc hu;rw[zh1 hb]at h1;refine⟨h1,fun _ h=>h,fun cs' vs' h _=> ?_,fun _ _=>rfl,fun j cs' h=> ?_,rfl⟩
 ·refine CRels.over (Over.refl g _) r.rg (fun c _ j _=>⟨fun x hx=> ?_,fun e he=>⟨e,he,rfl,Nat.le_refl _,fun _=>⟨rfl,fun _ _=>rfl⟩⟩⟩) h
  change zg s.sh.boxes k (some ds) j=some x at hx;rw[zJ]at hx;split at hx
  ·rename_i e; subst e; exact⟨⟨cs,hk⟩,rfl⟩
  ·exact⟨⟨x,hx⟩,rfl⟩
 ·by_cases hj:j=k
  ·subst hj; exact⟨ds,zx _ _ _⟩
  ·exact⟨cs',by rw[← h]; exact zt _ _ hj⟩
theorem zaR: ∀{ps:List Par} {vs:List V} {args:List Value} {m:zak ps} {ms:List (List Nat)} {key:Nat} {s s':St} {g:Gh} {X X':List Nat},Rel n0 M h0 s g X a w→zO s key ps vs m=some s' →
  zbY (hp w) g.Z ps m args ms→X.Perm (zbT ps ms++X')→(∀k∈zB ps vs,∃cs,s.sh.boxes k=some cs) →
  (∀(i:Nat) (k:Nat) (v:Value),vs[i]? =some (.c (.ptr k 0))→args[i]? =some v→k∈zB ps vs→v= .pointer (some ⟨g.bx k,0,none⟩)) →
  ∃g',g'.Z=g.Z∧Rel n0 M h0 s' g' X' a w∧Keeps s s' g g' (hp w)
 | [],[],[],m,[],key,s,s',g,X,X',r,e,hm,hp',hb,hv=>by
  simp[zO]at e; subst e;exact⟨g,rfl,r.dropExt (fp:= []) (by simpa [zbT]using hp'),Keeps.refl _ _ _⟩
 | .rd _::ps,_::vs,_::args,m,f::ms,key,s,s',g,X,X',r,e,hm,hp',hb,hv =>
  zaR (ps:=ps) (m:=m) r e hm.2 hp' hb (fun i k v h1 h2 h3=>hv (i+1) k v h1 h2 h3)
 | .kp _ _::ps,_::vs,_::args,m,f::ms,key,s,s',g,X,X',r,e,hm,hp',hb,hv =>
  zaR (ps:=ps) (m:=m) r e hm.2 hp' hb (fun i k v h1 h2 h3=>hv (i+1) k v h1 h2 h3)
 | .fn _ _::ps,_::vs,_::args,m,f::ms,key,s,s',g,X,X',r,e,hm,hp',hb,hv =>
  zaR (ps:=ps) (m:=m) r e hm.2 hp' hb (fun i k v h1 h2 h3=>hv (i+1) k v h1 h2 h3)
 | .rp _::ps,_::vs,_::args,m,f::ms,key,s,s',g,X,X',r,e,hm,hp',hb,hv =>
  zaR (ps:=ps) (m:=m) r e hm.2 hp' hb (fun i k v h1 h2 h3=>hv (i+1) k v h1 h2 h3)
 | .mt _ _::ps,_::vs,_::args,m,f::ms,key,s,s',g,X,X',r,e,hm,hp',hb,hv =>
  zaR (ps:=ps) (m:=m.2) r e hm.2 hp' hb (fun i k v h1 h2 h3=>hv (i+1) k v h1 h2 h3)
 | .pt t an::ps,x::vs,v::args,m,f::ms,key,s,s',g,X,X',r,e,hm,hp',hb,hv=>by
  simp only[zO]at e;split at e
  ·rename_i k off
   cases hoff:Nat.beq off 0 with
   | false=>rw[hoff]at e; simp at e
   | true =>
    have:=Nat.eq_of_beq_eq_true hoff;subst this;rw[hoff]at e; simp only[cond_true]at e;cases he:zo s key (t.flat m.1) (an.flat t)with
    | none=>rw[he]at e; simp at e
    | some q =>
     obtain⟨cs,s1⟩:=q;rw[he]at e; simp only at e;obtain⟨⟨b,c,T,f',hval,hblk,how,rfl⟩,hm⟩:=hm;have hkb:k∈zB (.pt t an::ps) (.c (.ptr k 0)::vs):=List.mem_cons_self;have hb0:=hv 0 k v rfl rfl hkb;rw[hb0]at hval;simp at hval;subst hval;obtain⟨fs,rfl,hol⟩:=zE.1 how;obtain⟨g1,hz1,r1,hc1,hu1,k1⟩:=zag (X':=zbT ps ms++X') r he hol (by simpa [zbT,List.append_assoc]using hp');obtain⟨cs0,hcs0⟩:=hb k hkb;obtain⟨cs1,hcs1⟩:=k1.2.2.2.1 k cs0 hcs0;have hbx:=k1.2.2.1;obtain⟨r2,k2⟩:=r1.relabel (ds:=cs) hcs1 (by rw[hbx k (r.ub k cs0 hcs0)]; exact hblk) hc1 hu1;have k12:=k1.trans k2
     obtain⟨g3,hz3,r3,k3⟩:=zaR (ps:=ps) (m:=m.2) r2 e (by rw[hz1]; exact hm) (.refl _) (fun j hj=>by
      obtain⟨c0,h⟩:=hb j (List.mem_cons_of_mem _ hj)
      exact k12.2.2.2.1 j c0 h) (fun i j v h1 h2 h3=>by
      obtain⟨c0,h⟩:=hb j (List.mem_cons_of_mem _ h3)
      rw[hbx j (r.ub j c0 h)]; exact hv (i+1) j v h1 h2 (List.mem_cons_of_mem _ h3))
     exact⟨g3,hz3.trans hz1,r3,k12.trans k3⟩
  ·simp at e
 | _::_,[],_,_,_,_,_,_,_,_,_,_,e,_,_,_,_=>by
  rename_i p ps _ _ _ _ _ _ _ _ _ _;cases p<;>simp[zO]at e
 | [],_::_,_,_,_,_,_,_,_,_,_,_,e,_,_,_,_=>by simp[zO]at e
 | [],[],_::_,_,_,_,_,_,_,_,_,_,_,hm,_,_,_=>by cases hm
 | [],[],[],_,_::_,_,_,_,_,_,_,_,_,hm,_,_,_=>by cases hm
 | p::_,_::_,[],_,_,_,_,_,_,_,_,_,_,hm,_,_,_=>by cases p<;>cases hm
 | p::_,_::_,_::_,_,[],_,_,_,_,_,_,_,_,hm,_,_,_=>by cases p<;>cases hm
theorem VRel1s.keeps {s s':St} {g g':Gh} {h:za} (k:Keeps s s' g g' h): ∀{l:List (Bool×List C)} {vs:List Value},(∀p∈l,∀c∈p.2,∀j∈c.refs,s.used j=true)→VRel1s s.sh g h l vs→VRel1s s'.sh g' h l vs
 | [],[],_,_=>trivial
 | (true,cs)::l,v::vs,hu,e=>by
  obtain⟨⟨us,rfl,h1⟩,h2⟩:=e;exact⟨⟨us,rfl,k.2.1 cs us h1 (fun c hc=>hu (true,cs) (by simp) c hc)⟩,VRel1s.keeps k (fun p hp=>hu p (by simp[hp])) h2⟩
 | (false,[c])::l,v::vs,hu,e =>
  ⟨(k.2.1 [c] [v] ⟨e.1,trivial⟩ (fun c' hc=>hu (false,[c]) (by simp) c' hc)).1,VRel1s.keeps k (fun p hp=>hu p (by simp[hp])) e.2⟩
 | (false,[])::_,_::_,_,e=>e.1.elim
 | (false,_::_::_)::_,_::_,_,e=>e.1.elim
end
theorem zdV: ∀{l:List Nat},zaf l=true→l.Nodup
 | [],_=>List.nodup_nil
 | k::l,h=>by
  simp only[zaf,Bool.and_eq_true,Bool.not_eq_true']at h;refine List.nodup_cons.2 ⟨fun hk=> ?_,zdV h.2⟩;rw[zq.2 hk]at h; simp at h
def zdN:LL→Nat→List Nat
 | [],_=> []
 | p::l,j=>bif Nat.beq j p.1 then p.2.2 else zdN l j
theorem zg8: ∀{L:LL},(L.map (·.1)).Nodup→ ∀p∈L,zdN L p.1=p.2.2∧zcq (L.map fun p=>(p.1,p.2.1)) p.1=p.2.1
 | [],_,p,hp=>by simp at hp
 | q::L,hn,p,hp=>by
  simp only[List.map_cons,List.nodup_cons]at hn;rcases List.mem_cons.1 hp with rfl | hp2
  ·simp[zdN,zcq]
  ·have hne:p.1≠q.1:=fun h=>hn.1 (by rw[← h]; exact List.mem_map.2 ⟨p,hp2,rfl⟩)
   have hb:Nat.beq p.1 q.1=false:=by
    cases h:Nat.beq p.1 q.1 with
    | false=>rfl
    | true=>exact absurd (Nat.eq_of_beq_eq_true h) hne
   simp only[List.map_cons,zdN,zcq,hb,cond_false];exact zg8 hn.2 p hp2
theorem zgn: ∀{L:LL},(L.flatMap (·.2.2)).Nodup→ ∀p∈L,∀q∈L,∀b,b∈p.2.2→b∈q.2.2→p=q
 | [],_,p,hp,_,_,_,_,_=>by simp at hp
 | r::L,hn,p,hp,q,hq,b,hb,hb'=>by
  simp only[List.flatMap_cons]at hn;obtain⟨h1,h2,h3⟩:=List.nodup_append.1 hn;rcases List.mem_cons.1 hp with hp2 | hp2<;>rcases List.mem_cons.1 hq with hq2 | hq2
  ·rw[hp2,hq2]
  ·rw[hp2]at hb; exact absurd rfl (h3 b hb b (List.mem_flatMap.2 ⟨q,hq2,hb'⟩))
  ·rw[hq2]at hb'; exact absurd rfl (h3 b hb' b (List.mem_flatMap.2 ⟨p,hp2,hb⟩))
  ·exact zgn h2 p hp2 q hq2 b hb hb'
theorem zg9: ∀{L:LL},(L.flatMap (·.2.2)).Nodup→ ∀p∈L,p.2.2.Nodup
 | [],_,p,hp=>by simp at hp
 | r::L,hn,p,hp=>by
  simp only[List.flatMap_cons]at hn;obtain⟨h1,h2,h3⟩:=List.nodup_append.1 hn;rcases List.mem_cons.1 hp with hp2 | hp2
  ·rw[hp2]; exact h1
  ·exact zg9 h2 p hp2
section
variable {P:Program} {E:Env} {n0:Nat} {M:Nat→Prop} {h0:Home} {s s':St} {g:Gh} {X:List Nat} {a:Act} {w:World} {o:Oper}
theorem zgp {s:Sh} {g:Gh} {h:za}: ∀{cs:List C} {vs:List Value},vs.length=cs.length→(∀v∈vs,zR v)→CRels s g h (cs.map fun _=> .junk) vs
 | [],[],_,_=>trivial
 | _::cs,v::vs,hl,hc=>⟨hc v (by simp),zgp (by simpa using hl) (fun u hu=>hc u (by simp[hu]))⟩
 | [],_::_,hl,_=>by simp at hl
 | _::_,[],hl,_=>by simp at hl
theorem VRels.get {sh:Sh} {h:za}: ∀{xs:List V} {vs:List Value} {i:Nat} {x:V} {v:Value},VRels sh g h xs vs→xs[i]? =some x→vs[i]? =some v→VRel sh g h x v
 | _::_,_::_,0,_,_,e,h1,h2=>by simp at h1 h2; subst h1 h2; exact e.1
 | _::_,_::_,i+1,_,_,e,h1,h2=>VRels.get e.2 (by simpa using h1) (by simpa using h2)
 | [],_,_,_,_,_,h1,_=>by simp at h1
 | _::_,[],_,_,_,e,_,_=>e.elim
theorem zfL (r:Rel n0 M h0 s g X a w): ∀{lent:List Nat},lent.Nodup→(∀k∈lent,∃e,s.sh.regs k=some e)→(lent.flatMap g.fp).Nodup
 | [],_,_=>by simp
 | k::lent,hn,h=>by
  obtain⟨h1,h2⟩:=List.nodup_cons.1 hn;simp only[List.flatMap_cons];obtain⟨e,he⟩:=h k (by simp);refine List.nodup_append.2 ⟨r.nd k e he,zfL r h2 (fun j hj=>h j (by simp[hj])),fun b hb b' hb' heq=> ?_⟩;subst heq;obtain⟨j,hj,hbj⟩:=List.mem_flatMap.1 hb';obtain⟨e',he'⟩:=h j (by simp[hj]);have:=r.uniq (.reg k) (.reg j) b ⟨⟨e,he⟩,hb⟩ ⟨⟨e',he'⟩,hbj⟩;simp at this; subst this; exact h1 hj
theorem zgh (r:Rel n0 M h0 s g X a w): ∀{bs:List Nat},bs.Nodup→(∀k∈bs,∃cs,s.sh.boxes k=some cs)→(bs.map g.bx).Nodup
 | [],_,_=>by simp
 | k::bs,hn,h=>by
  obtain⟨h1,h2⟩:=List.nodup_cons.1 hn;simp only[List.map_cons,List.nodup_cons];refine⟨fun hm=> ?_,zgh r h2 (fun j hj=>h j (by simp[hj]))⟩;obtain⟨j,hj,hbj⟩:=List.mem_map.1 hm;obtain⟨cs,hc⟩:=h k (by simp);obtain⟨cs',hc'⟩:=h j (by simp[hj]);have:=r.uniq (.box k) (.box j) (g.bx k) ⟨⟨cs,hc⟩,rfl⟩ ⟨⟨cs',hc'⟩,hbj⟩;simp at this; subst this; exact h1 hj
theorem zhJ {α:Type} (r:Rel n0 M h0 s g X a w) {f:FuncId} {con:Con} (hok:ConOk P f con) {site:Nat} {dst:Option Nat} {vs:List V} {args:List Value} {K:St→Option α} {out:α}
  (hall:VRels s.sh g (hp w) vs args) (e:zb0 site s dst con vs K=some out) :
  Calls P f args.toArray w (fun en w'=> ∃s' g' X' v,en= .returned v∧K s'=some out∧Rel n0 M h0 s' g' X' (a.put dst v) w'):=by
 unfold zb0 at e;split at e
 ·rename_i k sm ha
  generalize hle:zD con.ins vs=lent at e;generalize hbe:zB con.ins vs=bxs at e;generalize hfe:zH con.ins vs=fnb at e;cases hnn:(zaf lent&&zaf bxs&&zfy fnb bxs)with
  | false=>rw[hnn]at e; simp at e
  | true =>
  rw[hnn]at e; simp only[cond_true]at e;simp only[Bool.and_eq_true]at hnn;have hln:=zdV hnn.1.1;have hbn:=zdV hnn.1.2;split at e
  ·rename_i xs hk
   split at e
   ·rename_i rr hF
    split at e
    ·rename_i l s1 hres
     split at e
     ·rename_i s2 hback
      obtain⟨Z',X',F,hz,r1,hp1,hsb,hsr,hbx,hfx,hx⟩:=zaP r ha hall;obtain⟨hlent,fs,hargs0,hfs⟩:=hx lent xs hk;rw[hle]at hlent hfs;rw[hbe]at hbx hfs;rw[hfe]at hfx hargs0
      have hfx': ∀k∈fnb,∃cs,sm.boxes k=some cs:=fun k hk=>by
       obtain⟨cs,h⟩:=hfx k hk; exact⟨cs,by rw[hsb]; exact h⟩
      have hfb: ∀k∈fnb,k∉bxs:=fun k hk hb=>by
       have:=List.all_eq_true.1 hnn.2 k hk;rw[zq.2 hb]at this; simp at this
      have hbx': ∀k∈bxs,∃cs,sm.boxes k=some cs:=fun k hk=>by
       obtain⟨cs,h⟩:=hbx k hk; exact⟨cs,by rw[hsb]; exact h⟩
      have hF': ∀b∈F,b∈X':=fun b hb=>hp1.mem_iff.2 (List.mem_append.2 (.inl hb))
      have hXX: ∀b∈X,b∈X':=fun b hb=>hp1.mem_iff.2 (List.mem_append.2 (.inr hb))
      have hFXn:(F++X).Nodup:=hp1.nodup_iff.1 r1.nx;have hFX: ∀b∈F,b∉X:=fun b hb hb'=>(List.nodup_append.1 hFXn).2.2 b hb b hb' rfl
      have hgone: ∀b,b∈fs.flatten→(∃j∈lent,b∈g.fp j∧ ∃e,sm.regs j=some e)∨(∃j∈bxs,b=g.bx j∧ ∃cs,sm.boxes j=some cs)∨b∈F:=by
       intro b hb;have:=hfs.mem_iff.1 hb;simp only[List.mem_append,List.mem_flatMap,List.mem_map]at this;rcases this with(⟨j,hj,hb⟩ | ⟨j,hj,rfl⟩) | hb
       ·exact .inl ⟨j,hj,hb,hlent j hj⟩
       ·exact .inr (.inl ⟨j,hj,rfl,hbx' j hj⟩)
       ·exact .inr (.inr hb)
      have hwho: ∀b,b∈fs.flatten→ ∃o',zu sm { g with Z:=Z' } X' o' b∧((∃j∈lent,o'= .reg j)∨(∃j∈bxs,o'= .box j)∨(o'= .ext∧b∈F)):=by
       intro b hb;rcases hgone b hb with⟨j,hj,hb,he⟩ | ⟨j,hj,rfl,hc⟩ | hb
       ·exact⟨.reg j,⟨he,hb⟩,.inl ⟨j,hj,rfl⟩⟩
       ·exact⟨.box j,⟨hc,rfl⟩,.inr (.inl ⟨j,hj,rfl⟩)⟩
       ·exact⟨.ext,hF' b hb,.inr (.inr ⟨rfl,hb⟩)⟩
      have hapart: ∀o' b,zu sm { g with Z:=Z' } X' o' b→(∀j∈lent,o'≠ .reg j)→(∀j∈bxs,o'≠ .box j)→(o'= .ext→b∉F)→b∉fs.flatten:=by
       intro o' b hh h1 h2 h3 hb;obtain⟨o2,hh2,hcase⟩:=hwho b hb;have:=r1.uniq o' o2 b hh hh2;subst this;rcases hcase with⟨j,hj,h⟩ | ⟨j,hj,h⟩ | ⟨h,hf⟩
       ·exact h1 j hj h
       ·exact h2 j hj h
       ·exact h3 h hf
      have hfsn:fs.flatten.Nodup:=by
       refine hfs.nodup_iff.2 ?_;refine List.nodup_append.2 ⟨List.nodup_append.2 ⟨zfL r1 hln hlent,zgh r1 hbn hbx',fun b hb b' hb' heq=> ?_⟩,(List.nodup_append.1 hFXn).1,fun b hb b' hb' heq=> ?_⟩
       ·subst heq
        obtain⟨j,hj,hbj⟩:=List.mem_flatMap.1 hb;obtain⟨i,hi,rfl⟩:=List.mem_map.1 hb';have:=r1.uniq (.reg j) (.box i) _ ⟨hlent j hj,hbj⟩ ⟨hbx' i hi,rfl⟩;simp at this
       ·subst heq
        rcases List.mem_append.1 hb with hb | hb
        ·obtain⟨j,hj,hbj⟩:=List.mem_flatMap.1 hb
         have:=r1.uniq (.reg j) .ext _ ⟨hlent j hj,hbj⟩ (hF' b hb');simp at this
        ·obtain⟨i,hi,rfl⟩:=List.mem_map.1 hb
         have:=r1.uniq (.box i) .ext _ ⟨hbx' i hi,rfl⟩ (hF' _ hb');simp at this
      have hargs:=hargs0 (fun b=>Now { g with Z:=Z' } (zaa lent sm) b∨ ∃k∈fnb,b=g.bx k) (fun b h=> .inl h) (fun k hk=> .inr ⟨k,hk,rfl⟩)
      have hfsz: ∀b∈fs.flatten,b<w.heap.size∧ ¬Z' b∧ ¬(Now { g with Z:=Z' } (zaa lent sm) b∨ ∃k∈fnb,b=g.bx k):=by
       intro b hb;obtain⟨o2,hh,hcase⟩:=hwho b hb;have m:=r1.mine o2 b hh;refine⟨m.s,m.z,?_⟩
       rintro((h | h | ⟨j,en,he,hbj⟩) | ⟨k,hkf,hbk⟩)
       ·exact m.z h
       ·exact m.r h
       ·obtain⟨he',hjl⟩:=zcs j en he
        have:=r1.uniq o2 (.reg j) b hh ⟨⟨en,he'⟩,hbj⟩;subst this;rcases hcase with⟨i,hi,h⟩ | ⟨i,hi,h⟩ | ⟨h,_⟩
        ·simp at h; subst h; exact hjl hi
        ·simp at h
        ·simp at h
       ·have:=r1.uniq o2 (.box k) b hh ⟨hfx' k hkf,hbk.symm⟩
        subst this;rcases hcase with⟨i,hi,h⟩ | ⟨i,hi,h⟩ | ⟨h,_⟩
        ·simp at h
        ·simp at h; subst h; exact hfb k hkf hi
        ·simp at h
      have hnow: ∀b,Z' b∨(Now { g with Z:=Z' } (zaa lent sm) b∨ ∃k∈fnb,b=g.bx k)→b<w.heap.size:=by
       intro b hb;rcases hb with hb | (hb | hb | ⟨j,en,he,hb⟩) | ⟨k,hkf,rfl⟩
       ·exact r1.zs b (.inl hb)
       ·exact r1.zs b (.inl hb)
       ·exact r1.zs b (.inr hb)
       ·exact(r1.mine (.reg j) b ⟨⟨en,(zcs j en he).1⟩,hb⟩).s
       ·exact(r1.mine (.box k) _ ⟨hfx' k hkf,rfl⟩).s
      have hcalls:=hok.run w Z' (fun b=>Now { g with Z:=Z' } (zaa lent sm) b∨ ∃k∈fnb,b=g.bx k) xs args fs rr hargs hF hnow hfsn hfsz;refine hcalls.mono fun en w' hd=> ?_
      obtain⟨vals,Z2,ds,ms,rfl,hio,hsz,hsame,hZ,hZ2,hres2,hmut,hnd,hav⟩:=hd;have hall1:VRels sm { g with Z:=Z' } (hp w) vs args:=VRels.over (zbK hz) r.rg (fun k=>zaB hsb hsr k) hall
      obtain⟨L,e1,e2,e3,e4,e5⟩:=zbq (g:={ g with Z:=Z' }) (m:=rr.2) r1.rg (fun k cs hc=>by
       obtain⟨c,T,h1,h2⟩:=r1.bx k cs hc
       exact⟨c,T,h1,CRels.len h2⟩) ha hsb.symm hk hall1 hargs hmut
      rw[hle]at e2;rw[hbe]at e3 e5;have hmsn:=(List.nodup_append.1 hnd).2.1;have hdsn:=(List.nodup_append.1 hnd).1;have hdm: ∀b∈ds.flatten,b∉ms.flatten:=fun b hb hb'=>(List.nodup_append.1 hnd).2.2 b hb b hb' rfl
      have hLn:=e3.nodup_iff.1 hmsn;obtain⟨hL1,hL2,hL3⟩:=List.nodup_append.1 hLn;obtain⟨hB1,hP1,hBP⟩:=List.nodup_append.1 hL2;have hLm: ∀p∈L,∀b∈p.2.2,b∈ms.flatten:=fun p hp b hb=>e3.mem_iff.2 (List.mem_append.2 (.inl (List.mem_flatMap.2 ⟨p,hp,hb⟩)))
      have hBm: ∀j∈bxs,g.bx j∈ms.flatten:=fun j hj=>e3.mem_iff.2 (List.mem_append.2 (.inr (List.mem_append.2 (.inl (List.mem_map.2 ⟨j,hj,rfl⟩)))))
      have hPm: ∀b∈zbT con.ins ms,b∈ms.flatten:=fun b hb=>e3.mem_iff.2 (List.mem_append.2 (.inr (List.mem_append.2 (.inr hb))))
      have hZms: ∀b∈ms.flatten,¬Z2 b:=fun b hb=>(hav b (List.mem_append.2 (.inr hb))).2
      have hkeys:(L.map (·.1)).Nodup:=by rw[e2]; exact hln
      have hget: ∀j,zr j lent=true→ ∃p∈L,p.1=j∧zdN L j=p.2.2∧zcq (zaH sm con.ins vs rr.2) j=p.2.1:=by
       intro j hj;have hj2:=zq.1 hj;rw[← e2]at hj2;obtain⟨p,hp,rfl⟩:=List.mem_map.1 hj2;obtain⟨h1,h2⟩:=zg8 hkeys p hp;exact⟨p,hp,rfl,h1,by rw[← e1]; exact h2⟩
      have hav2: ∀b,((w.heap.size≤b∧b<w'.heap.size)∨b∈fs.flatten)→(∀j∈bxs,b≠g.bx j)→zeO { g with Z:=Z' } X' (fun j=>zr j lent) w w' b:=by
       intro b hb hnb;rcases hb with hb | hb
       ·exact .inl hb
       ·rcases hgone b hb with⟨j,hj,hb,_⟩ | ⟨j,hj,rfl,_⟩ | hb
        ·exact .inr (.inr ⟨j,zq.2 hj,hb⟩)
        ·exact absurd rfl (hnb j hj)
        ·exact .inr (.inl (hF' b hb))
      have hZfs: ∀o' b,zu sm { g with Z:=Z' } X' o' b→b∉fs.flatten→ ¬Z2 b:=by
       intro o' b hh hnf hz2;have m:=r1.mine o' b hh;rcases hZ2 b hz2 with h | h | h
       ·exact m.z h
       ·have:=m.s; omega
       ·exact hnf h
      have hXfs: ∀b∈X,b∉fs.flatten:=fun b hb=>hapart .ext b (hXX b hb) (fun j _ h=>by simp at h) (fun j _ h=>by simp at h) (fun _ hbF=>hFX b hbF hb)
      have hXlow: ∀b∈X,b<w.heap.size:=fun b hb=>(r1.mine .ext b (hXX b hb)).s
      have hnotX: ∀b,((w.heap.size≤b∧b<w'.heap.size)∨b∈fs.flatten)→b∉X:=by
       intro b hb hbx;rcases hb with hb | hb
       ·have:=hXlow b hbx; omega
       ·exact hXfs b hbx hb
      have hdsb: ∀b∈ds.flatten,∀j∈bxs,b≠g.bx j:=fun b hb j hj h=>hdm b hb (by rw[h]; exact hBm j hj)
      have hptb: ∀b∈zbT con.ins ms,∀j∈bxs,b≠g.bx j:=fun b hb j hj h=>hBP (g.bx j) (List.mem_map.2 ⟨j,hj,rfl⟩) b hb h.symm
      have hLb: ∀p∈L,∀b∈p.2.2,∀j∈bxs,b≠g.bx j:=fun p hp b hb j hj h =>
       hL3 b (List.mem_flatMap.2 ⟨p,hp,hb⟩) (g.bx j) (List.mem_append.2 (.inl (List.mem_map.2 ⟨j,hj,rfl⟩))) h
      have hLp: ∀p∈L,∀b∈p.2.2,b∉zbT con.ins ms:=fun p hp b hb hb' =>
       hL3 b (List.mem_flatMap.2 ⟨p,hp,hb⟩) b (List.mem_append.2 (.inr hb')) rfl
      have r2:=r1.call (hio:=hio) (w':=w') (Z':=Z2) (kr:=fun j=>zr j lent) (kb:=fun j=>zr j bxs) (ne:=zcq (zaH sm con.ins vs rr.2)) (nb:=zbG sm) (nf:=zdN L)
       (X':=ds.flatten++(zbT con.ins ms++X)) hsz
       (fun b hb h1 h2 h3=>hsame b hb (fun hbf=>by
        rcases hgone b hbf with⟨j,hj,hb,_⟩ | ⟨j,hj,rfl,_⟩ | hb
        ·exact h2 j (zq.2 hj) hb
        ·exact h3 j (zq.2 hj) rfl
        ·exact h1 (hF' b hb)))
       hZ
       (fun b hb=>by
        rcases hZ2 b hb with h | h | h
        ·have:=r1.zs b (.inl h); omega
        ·exact h.2
        ·have:=(hfsz b h).1; omega)
       (fun b hb=>by
        rcases hZ2 b hb with h | h | h
        ·exact .inl h
        ·exact .inr (.inl h)
        ·refine .inr (hav2 b (.inr h) (fun j hj hbj=> ?_))
         exact hZms (g.bx j) (hBm j hj) (hbj ▸ hb))
       (fun j hj=>by
        obtain⟨p,hp,rfl,h1,h2⟩:=hget j hj;obtain⟨⟨e0,h3,h4⟩,h5⟩:=e4 p hp;rw[h1,h2]
        exact⟨e0,h3,h4,zg9 hL1 p hp,h5⟩)
       (fun j hj=>by
        have hj2:=zq.1 hj;obtain⟨cs,c,T,h1,h2,h3,h4⟩:=e5 j hj2;refine⟨⟨cs,h1⟩,fun c hc=> ?_,hZms _ (hBm j hj2),c,T,h2,fun s' g' h'=> ?_⟩
        ·unfold zbG at hc
         rw[h1]at hc;simp only[List.mem_map]at hc;obtain⟨_,_,rfl⟩:=hc;rfl
        ·unfold zbG
         rw[h1]
         exact zgp h3 h4)
       (fun j hj b hb=>by
        obtain⟨p,hp,rfl,h1,h2⟩:=hget j hj;rw[h1]at hb;have hbm:=hLm p hp b hb
        exact⟨hav2 b (hav b (List.mem_append.2 (.inr hbm))).1 (hLb p hp b hb),hZms b hbm⟩)
       (fun i j hi hj b hb hb'=>by
        obtain⟨p,hp,rfl,h1,_⟩:=hget i hi;obtain⟨q,hq,rfl,h2,_⟩:=hget j hj;rw[h1]at hb; rw[h2]at hb'
        rw[zgn hL1 p hp q hq b hb hb'])
       (fun b hb=>by
        rcases List.mem_append.1 hb with hb | hb
        ·obtain⟨h1,h2⟩:=hav b (List.mem_append.2 (.inl hb))
         exact⟨hav2 b h1 (hdsb b hb),h2⟩
        ·rcases List.mem_append.1 hb with hb | hb
         ·obtain⟨h1,h2⟩:=hav b (List.mem_append.2 (.inr (hPm b hb)))
          exact⟨hav2 b h1 (hptb b hb),h2⟩
         ·exact⟨.inr (.inl (hXX b hb)),hZfs .ext b (hXX b hb) (hXfs b hb)⟩)
       (fun j hj b hb hbX=>by
        obtain⟨p,hp,rfl,h1,h2⟩:=hget j hj;rw[h1]at hb;have hbm:=hLm p hp b hb;rcases List.mem_append.1 hbX with h | h
        ·exact hdm b h hbm
        ·rcases List.mem_append.1 h with h | h
         ·exact hLp p hp b hb h
         ·exact hnotX b (hav b (List.mem_append.2 (.inr hbm))).1 h)
       (List.nodup_append.2 ⟨hdsn,List.nodup_append.2 ⟨hP1,(List.nodup_append.1 hFXn).2.1,fun b hb b' hb' heq=>by
         subst heq
         exact hnotX b (hav b (List.mem_append.2 (.inr (hPm b hb)))).1 hb'⟩,fun b hb b' hb' heq=>by
        subst heq;rcases List.mem_append.1 hb' with h | h
        ·exact hdm b hb (hPm b h)
        ·exact hnotX b (hav b (List.mem_append.2 (.inl hb))).1 h⟩)
       (fun j hj en he b hb=>hZfs (.reg j) b ⟨⟨en,he⟩,hb⟩ (hapart (.reg j) b ⟨⟨en,he⟩,hb⟩ (fun i hi h=>by
        simp at h; subst h; rw[zq.2 hi]at hj; simp at hj) (fun i _ h=>by simp at h) (fun h=>by simp at h)))
       (fun j cs hc=>by
        cases hjb:zr j bxs with
        | true=>exact hZms _ (hBm j (zq.1 hjb))
        | false =>
         exact hZfs (.box j) _ ⟨⟨cs,hc⟩,rfl⟩ (hapart (.box j) _ ⟨⟨cs,hc⟩,rfl⟩ (fun i _ h=>by simp at h) (fun i hi h=>by
          simp at h; subst h; rw[zq.2 hi]at hjb; simp at hjb) (fun h=>by simp at h)))
      have r2':Rel n0 M h0 (zc5 s sm lent bxs (zaH sm con.ins vs rr.2)) { g with Z:=Z2,fp:=fun j=>bif zr j lent then zdN L j else g.fp j } (ds.flatten++(zbT con.ins ms++X)) a w':=r2;obtain⟨g3,hz3,r3,hv3,hu3,k3⟩:=zd5 r2' hres hres2 (.refl _)
      obtain⟨g4,hz4,r4,k4⟩:=zaR (ps:=con.ins) (m:=rr.2) (args:=args) (X':=X) r3 hback (by rw[hz3]; exact hmut) (.refl _)
       (fun j hj=>by
        rw[hbe]at hj;refine k3.2.2.2.1 j (zbG sm j) ?_;show(bif zr j bxs then some (zbG sm j)else sm.boxes j)=some _
        rw[zq.2 hj]; rfl)
       (fun i k' v h1 h2 hj=>by
        rw[hbe]at hj;obtain⟨cs,hc⟩:=hbx' k' hj;have:=VRels.get hall1 h1 h2;have hbxe:g3.bx k'=g.bx k':=k3.2.2.1 k' (r1.ub k' cs hc);rw[hbxe]
        exact this.2 cs hc)
      have hv4:=hv3.keeps k4 hu3;obtain⟨h4,h5⟩:=ziU hv4;refine⟨_,_,_,_,rfl,e,r4.putO h4 (fun k hk=>by obtain⟨p,hp,c,hc,hk⟩:=h5 k hk; exact k4.1 k (hu3 p hp c hc k hk))⟩
     ·simp at e
    ·simp at e
   ·simp at e
  ·simp at e
 ·simp at e
theorem zgz (r:Rel n0 M h0 s g X a w) {c:Callee} {f:FuncId} {ex:List V} (e:zae s c=some (f,ex)) :
  ∃x us,c= .value x∧a.eval x= .func (.func f) #[] us.toArray∧VRels s.sh g (hp w) ex us:=by
 unfold zae at e;split at e
 ·simp at e; obtain⟨rfl,rfl⟩:=e
  exact⟨_,[],rfl,rfl,trivial⟩
 ·rename_i i
  split at e
  ·rename_i f' t x hx
   simp at e; obtain⟨rfl,rfl⟩:=e;have hv:=(zf r (.tmp i)).1;rw[hx]at hv;obtain⟨_,b,o,vs,hval,hZ,hcs,hrd⟩:=hv;refine⟨_,[.pointer (some ⟨b,o,none⟩)],rfl,hval,⟨trivial,b,o,vs,rfl,hZ.imp id (fun h=>⟨rfl,h⟩),hcs,?_⟩,trivial⟩;exact Rd.keep (fun _ _=>rfl) (fun b hb=>hb.imp id (fun h=>⟨rfl,h⟩)) hrd
  ·simp at e
 ·simp at e
theorem VRels.append {sh:Sh} {h:za}: ∀{xs ys:List V} {us vs:List Value},VRels sh g h xs us→VRels sh g h ys vs→VRels sh g h (xs++ys) (us++vs)
 | [],_,[],_,_,e=>e
 | _::_,_,_::_,_,e1,e2=>⟨e1.1,VRels.append e1.2 e2⟩
 | [],_,_::_,_,e,_=>e.elim
 | _::_,_,[],_,e,_=>e.elim
theorem zhL {α:Type} (r:Rel n0 M h0 s g X a w) (hG:GOk P E) {site:Nat} {c:Call} {K:St→Option α} {out:α} {next:Act→World→Prop} {Q:Exit→Act→World→Prop}
  (ho:o.op= .call c) (e:zc1 E site s o c K=some out) (hK: ∀s' g' X' a' w',K s'=some out→Rel n0 M h0 s' g' X' a' w'→next a' w'):o.wp P a w next Q:=by
 obtain⟨callee,args,ts⟩:=c;unfold zc1 at e;split at e
 ·rename_i f ex hcal
  split at e
  ·rename_i con hcon
   simp only at hcal e;obtain⟨x,us,rfl,hval,hex⟩:=zgz r hcal;have hok:=hG.con f con hcon;have hall:VRels s.sh g (hp w) (args.toList.map (ze s)++ex) (args.toList.map a.eval++us):=VRels.append (zen r args.toList) hex;unfold Oper.wp
   have hrun:(execOp a.eval o).run P w= .ok (.enter f (args.toList.map a.eval++us).toArray) w:=by
    have hargs':(args.map a.eval)++us.toArray=(args.toList.map a.eval++us).toArray:=by
     rw[← Array.toList_map]; simp
    simp only[execOp,ho,resolve,Sem.run_bind,hval];simp only[Deferred.ofValue,Sem.run_pure,Result.andThen_ok];simp only[invoke];rw[← hargs'];simpa using zeI (w:=w) (args:=args.map a.eval++us.toArray) hok.fn
   rw[hrun,Oper.upon_enter];refine(zhJ r hok hall e).mono fun en w' hd=> ?_
   obtain⟨s',g',X',v,rfl,hK',r'⟩:=hd;exact hK s' g' X' _ w' hK' r'
  ·simp at e
 ·simp at e
end
def z8 (j k i:Nat):Nat:=bif Nat.beq i j then k else bif Nat.beq i k then j else i
theorem zi0 {i j:Nat} (h:i≠j):Nat.beq i j=false:=by
 cases hb:Nat.beq i j with
 | false=>rfl
 | true=>exact absurd (Nat.eq_of_beq_eq_true hb) h
theorem zhC (j k i:Nat):z8 j k i=if i=j then k else if i=k then j else i:=by
 unfold z8;by_cases h1:i=j
 ·subst h1; simp
 ·rw[zi0 h1,if_neg h1]
  by_cases h2:i=k
  ·subst h2; simp
  ·rw[zi0 h2,if_neg h2]; rfl
theorem zM (j k i:Nat):z8 j k (z8 j k i)=i:=by
 simp only[zhC];by_cases h1:i=j
 ·subst h1
  rw[if_pos rfl];by_cases h2:k=i
  ·simp[h2]
  ·rw[if_neg h2,if_pos rfl]
 ·rw[if_neg h1]
  by_cases h2:i=k
  ·rw[if_pos h2,if_pos rfl,h2]
  ·rw[if_neg h2,if_neg h1,if_neg h2]
theorem zju {j k a b:Nat} (h:z8 j k a=z8 j k b):a=b:=by
 rw[← zM j k a,h,zM]
theorem zd8 {j k i:Nat} (hj:j<1000000000) (hk:k<1000000000) (hi: ¬i<1000000000):z8 j k i=i:=by
 rw[zhC,if_neg (by omega),if_neg (by omega)]
def C.ren (j k:Nat):C→C
 | .at i=> .at (z8 j k i)
 | .vw i ver lo hi=> .vw (z8 j k i) ver lo hi
 | .nd i ver p q=> .nd (z8 j k i) ver p q
 | .ptr i off=> .ptr (z8 j k i) off
 | .eo i ver p q x off=> .eo (z8 j k i) ver p q x off
 | .fn f cap=> .fn f (cap.map fun p=>(z8 j k p.1,p.2))
 | c=>c
def V.ren (j k:Nat):V→V
 | .c x=> .c (x.ren j k)
 | .agg cs=> .agg (cs.map (C.ren j k))
 | .tup ps=> .tup (ps.map fun p=>(p.1,p.2.map (C.ren j k)))
 | .junk=> .junk
def zbJ (j k:Nat):Option (List C)→Option (List C)
 | some cs=>some (cs.map (C.ren j k))
 | none=>none
def Sh.ren (j k:Nat) (sh:Sh):Sh:={ boxes:=fun i=>zbJ j k (sh.boxes (z8 j k i)),regs:=fun i=>sh.regs (z8 j k i) }
def St.ren (j k:Nat) (s:St):St:={ nt:=s.nt,tmps:=fun i=>(s.tmps i).ren j k,sh:=s.sh.ren j k,used:=fun i=>s.used (z8 j k i) }
def Gh.ren (j k:Nat) (g:Gh):Gh:={ g with bx:=fun i=>g.bx (z8 j k i),hd:=fun i=>g.hd (z8 j k i),fp:=fun i=>g.fp (z8 j k i) }
section
variable {n0:Nat} {M:Nat→Prop} {h0:Home} {s:St} {g:Gh} {X:List Nat} {a:Act} {w:World} {j k:Nat}
theorem CRel.ren {sh:Sh} {h:za}: ∀{c:C} {v:Value},CRel sh g h c v→CRel (sh.ren j k) (g.ren j k) h (c.ren j k) v
 | .int _ _,_,e=>e
 | .bool _,_,e=>e
 | .nil,_,e=>e
 | .fz _ _,_,e=>e
 | .br _ _,_,e=>e
 | .at i,v,e=>⟨e.1,fun en he=>by
   simp only[Sh.ren,zM]at he
   simp only[Gh.ren,zM]; exact e.2 en he⟩
 | .vw i ver lo hi,v,e=>⟨e.1,fun en he=>by
   simp only[Sh.ren,zM]at he
   simp only[Gh.ren,zM]; exact e.2 en he⟩
 | .nd i ver p q,v,e=>⟨e.1,fun en he=>by
   simp only[Sh.ren,zM]at he
   simp only[Gh.ren,zM]; exact e.2 en he⟩
 | .ptr i off,v,e=>⟨e.1,fun c hc=>by
   simp only[Sh.ren,zM]at hc;simp only[Gh.ren,zM];cases hb:sh.boxes i with
   | none=>rw[hb]at hc; simp[zbJ]at hc
   | some cs=>exact e.2 cs hb⟩
 | .ef _ _ _ _,_,e=>e
 | .eo i ver p q x off,v,e=>⟨e.1,fun en he=>by
   simp only[Sh.ren,zM]at he
   simp only[Gh.ren,zM]; exact e.2 en he⟩
 | .fn f cap,v,e=>by
  obtain⟨hc,vs,rfl,hl,e⟩:=e;refine⟨hc,vs,rfl,by simpa [C.ren]using hl,fun i m off hi c hcc=> ?_⟩;simp only[List.getElem?_map,Option.map_eq_some_iff]at hi;obtain⟨p,hp,hp2⟩:=hi;obtain⟨m0,off0⟩:=p;simp at hp2;obtain⟨rfl,rfl⟩:=hp2;simp only[Sh.ren,zM]at hcc;simp only[Gh.ren,zM];cases hb:sh.boxes m0 with
  | none=>rw[hb]at hcc; simp[zbJ]at hcc
  | some cs=>exact e i m0 _ hp cs hb
 | .fx _ _ _,_,e=>e
 | .junk,_,e=>e
theorem CRels.ren {sh:Sh} {h:za}: ∀{cs:List C} {vs:List Value},CRels sh g h cs vs→CRels (sh.ren j k) (g.ren j k) h (cs.map (C.ren j k)) vs
 | [],[],_=>trivial
 | _::_,_::_,e=>⟨CRel.ren e.1,CRels.ren e.2⟩
theorem VRel1s.ren {sh:Sh} {h:za}: ∀{ps:List (Bool×List C)} {vs:List Value},VRel1s sh g h ps vs→VRel1s (sh.ren j k) (g.ren j k) h (ps.map fun p=>(p.1,p.2.map (C.ren j k))) vs
 | [],[],_=>trivial
 | (true,cs)::_,_::_,e=>by
  obtain⟨⟨us,rfl,h1⟩,h2⟩:=e;exact⟨⟨us,rfl,CRels.ren h1⟩,VRel1s.ren h2⟩
 | (false,[c])::_,_::_,e=>⟨CRel.ren (c:=c) e.1,VRel1s.ren e.2⟩
 | (false,[])::_,_::_,e=>e.1.elim
 | (false,_::_::_)::_,_::_,e=>e.1.elim
theorem VRel.ren {sh:Sh} {h:za}: ∀{x:V} {v:Value},VRel sh g h x v→VRel (sh.ren j k) (g.ren j k) h (x.ren j k) v
 | .c _,_,e=>CRel.ren e
 | .agg _,_,e=>by obtain⟨us,rfl,h1⟩:=e; exact⟨us,rfl,CRels.ren h1⟩
 | .tup _,_,e=>by obtain⟨us,rfl,h1⟩:=e; exact⟨us,rfl,VRel1s.ren h1⟩
 | .junk,_,_=>trivial
theorem C.ren_refs {c:C}: ∀i∈(c.ren j k).refs,z8 j k i∈c.refs:=by
 intro i hi;cases c<;>simp only[C.ren,C.refs,List.mem_cons,List.not_mem_nil,or_false]at hi ⊢
 case fn f cap =>
  simp only[List.map_map,List.mem_map,Function.comp]at hi ⊢;obtain⟨p,hp,rfl⟩:=hi;exact⟨p,hp,by rw[zM]⟩
 all_goals (subst hi; rw[zM])
theorem V.ren_refs {x:V}: ∀i∈(x.ren j k).refs,z8 j k i∈x.refs:=by
 intro i hi;cases x with
 | c x=>exact C.ren_refs i hi
 | agg cs =>
  simp only[V.ren,V.refs,List.mem_flatMap,List.mem_map]at hi ⊢;obtain⟨_,⟨c,hc,rfl⟩,hi⟩:=hi;exact⟨c,hc,C.ren_refs i hi⟩
 | tup ps =>
  simp only[V.ren,V.refs,List.mem_flatMap,List.mem_map]at hi ⊢;obtain⟨_,⟨p,hp,rfl⟩,hi⟩:=hi;simp only[List.mem_map]at hi;obtain⟨_,⟨c,hc,rfl⟩,hi⟩:=hi;exact⟨p,hp,c,hc,C.ren_refs i hi⟩
 | junk=>simp[V.ren,V.refs]at hi
def Who.ren (j k:Nat):Who→Who
 | .box i=> .box (z8 j k i)
 | .reg i=> .reg (z8 j k i)
 | .ext=> .ext
theorem Who.ren_inj {o o':Who} (h:o.ren j k=o'.ren j k):o=o':=by
 cases o<;>cases o'<;>simp only[Who.ren]at h<;>first | rfl | (simp at h; rw[zju h]) | simp at h
theorem zes {o:Who} {b:Nat} (h:zu (s.sh.ren j k) (g.ren j k) X o b):zu s.sh g X (o.ren j k) b:=by
 cases o with
 | box i =>
  obtain⟨⟨cs,h1⟩,h2⟩:=h;simp only[Sh.ren]at h1;cases hb:s.sh.boxes (z8 j k i)with
  | none=>rw[hb]at h1; simp[zbJ]at h1
  | some c=>exact⟨⟨c,hb⟩,h2⟩
 | reg i=>exact h
 | ext=>exact h
theorem Rel.swap (r:Rel n0 M h0 s g X a w) (hj:j<1000000000) (hk:k<1000000000):Rel n0 M h0 (s.ren j k) (g.ren j k) X a w where
 sz:=r.sz
 df:=r.df
 tm:=fun i v hv=>VRel.ren (r.tm i v hv)
 bx:=fun i cs h=>by
  simp only[St.ren,Sh.ren]at h;cases hb:s.sh.boxes (z8 j k i)with
  | none=>rw[hb]at h; simp[zbJ]at h
  | some c =>
   rw[hb]at h; simp[zbJ]at h; subst h;obtain⟨cc,T,h1,h2⟩:=r.bx _ _ hb;exact⟨cc,T,h1,CRels.ren h2⟩
 rg:=fun i e h=>r.rg _ e h
 ub:=fun i cs h=>by
  simp only[St.ren,Sh.ren]at h;cases hb:s.sh.boxes (z8 j k i)with
  | none=>rw[hb]at h; simp[zbJ]at h
  | some c=>exact r.ub _ c hb
 ur:=fun i e h=>r.ur _ e h
 ut:=fun i m hm=>r.ut i _ (V.ren_refs m hm)
 uc:=fun i cs h=>by
  simp only[St.ren,Sh.ren]at h;cases hb:s.sh.boxes (z8 j k i)with
  | none=>rw[hb]at h; simp[zbJ]at h
  | some c =>
   rw[hb]at h; simp[zbJ]at h; subst h;intro x hx m hm;simp only[List.mem_map]at hx;obtain⟨y,hy,rfl⟩:=hx;exact r.uc _ c hb y hy _ (C.ren_refs m hm)
 zs:=r.zs
 mine:=fun o b h=>by
  have m:=r.mine _ b (zes h);exact⟨m.z,m.r,m.m,m.s⟩
 uniq:=fun o o' b h1 h2=>Who.ren_inj (r.uniq _ _ b (zes h1) (zes h2))
 nd:=fun i e h=>r.nd _ e h
 nx:=r.nx
 nn:=r.nn
 fr:=r.fr
 zn:=r.zn
 zl:=r.zl
 hh:=fun i e v h hv=>by
  by_cases hi:i<1000000000
  ·rw[(r.dz i hi).1]at hv; simp at hv
  ·have:=zd8 hj hk hi
   simp only[St.ren,Sh.ren,this]at h;simp only[Gh.ren,this];exact r.hh i e v h hv
 hb:=fun i cs b h hv=>by
  by_cases hi:i<1000000000
  ·rw[(r.dz i hi).2]at hv; simp at hv
  ·have:=zd8 hj hk hi
   simp only[St.ren,Sh.ren,this]at h;simp only[Gh.ren,this];cases hb:s.sh.boxes i with
   | none=>rw[hb]at h; simp[zbJ]at h
   | some c=>exact r.hb i c b hb hv
 dz:=r.dz
 io:=r.io
 hi:=fun i hi=>by
  by_cases h:i<1000000000
  ·exact r.dz i h
  ·have:=zd8 hj hk h
   simp only[St.ren,this]at hi;exact r.hi i hi
end
inductive CT where
 | int (k:IntKind)
 | bool
 | fz (t:Ty)
 | br (t:Ty)
 | at (k:Nat)
 | ptr (k off:Nat)
 | nil
 | fx (f:FuncId) (t:Ty)
 | ci (k:IntKind) (n:Int)
 | cb (b:Bool)
@[reducible] def CT.D:CT→Type
 | .int _=>Int
 | .bool=>Bool
 | .fz t=>List t.D
 | .br t=>List t.D
 | .at _=>Unit
 | .ptr _ _=>Unit
 | .nil=>Unit
 | .fx _ t=>t.D
 | .ci _ _=>Unit
 | .cb _=>Unit
def CT.enc:(c:CT)→c.D→C
 | .int k,n=> .int k n
 | .bool,b=> .bool b
 | .fz t,l=> .fz t l
 | .br t,l=> .br t l
 | .at k,_=> .at k
 | .ptr k off,_=> .ptr k off
 | .nil,_=> .nil
 | .fx f t,x=> .fx f t x
 | .ci k n,_=> .int k n
 | .cb b,_=> .bool b
def CT.dec:(c:CT)→C→Option c.D
 | .int k,v=>match v with
  | .int j n=>(match zb5 j k with | some _=>some n | none=>none)
  | _=>none
 | .bool,v=>match v with
  | .bool b=>some b
  | _=>none
 | .fz t,v=>match v with
  | .fz u l=>zad u t l
  | .nil=>none
  | _=>none
 | .br t,v=>match v with
  | .br u l=>zad u t l
  | _=>none
 | .at k,v=>match v with
  | .at j=>bif Nat.beq j k then some ()else none
  | _=>none
 | .ptr k off,v=>match v with
  | .ptr j o=>bif Nat.beq j k&&Nat.beq o off then some ()else none
  | _=>none
 | .nil,v=>match v with
  | .nil=>some ()
  | _=>none
 | .fx f t,v=>match v with
  | .fx i u x=>bif Nat.beq i f then zfC u t x else none
  | _=>none
 | .ci k n,v=>match v with
  | .int j m=>(match zb5 j k with | some _=>bif decide (m=n)then some ()else none | none=>none)
  | _=>none
 | .cb b,v=>match v with
  | .bool d=>bif d==b then some ()else none
  | _=>none
def CT.ok (keys:List Nat):CT→Bool
 | .at k=>zr k keys
 | .ptr k _=>zr k keys
 | _=>true
@[reducible] def zdC:List CT→Type
 | []=>Unit
 | c::cs=>c.D×zdC cs
def zb4:(cs:List CT)→zdC cs→List C
 | [],_=> []
 | c::cs,x=>c.enc x.1::zb4 cs x.2
def zdH:(cs:List CT)→List C→Option (zdC cs)
 | [],[]=>some ()
 | c::cs,v::vs=>match c.dec v,zdH cs vs with
  | some d,some ds=>some (d,ds)
  | _,_=>none
 | _,_=>none
structure Shape where
 slots:List (Nat×Bool×List CT)
 boxes:List (Nat×List CT)
 regs:List (Nat×Ty×Ann)
@[reducible] def zbA:List (Nat×Bool×List CT)→Type
 | []=>Unit
 | s::ss=>zdC s.2.2×zbA ss
@[reducible] def zbz:List (Nat×List CT)→Type
 | []=>Unit
 | s::ss=>zdC s.2×zbz ss
@[reducible] def zco:List (Nat×Ty×Ann)→Type
 | []=>Unit
 | s::ss=>List s.2.1.D×zco ss
@[reducible] def Shape.X (h:Shape):Type:=zbA h.slots×zbz h.boxes×zco h.regs
def zcK:(ss:List (Nat×Bool×List CT))→zbA ss→Nat→V
 | [],_=>fun _=> .junk
 | s::ss,x=>zg (zcK ss x.2) s.1 (zv s.2.1 (zb4 s.2.2 x.1))
def zcJ:(ss:List (Nat×List CT))→zbz ss→Nat→Option (List C)
 | [],_=>fun _=>none
 | s::ss,x=>zg (zcJ ss x.2) s.1 (some (zb4 s.2 x.1))
def zdp:(ss:List (Nat×Ty×Ann))→zco ss→Nat→Option Entry
 | [],_=>fun _=>none
 | s::ss,x=>zg (zdp ss x.2) s.1 (some ⟨⟨s.2.1,s.2.2,x.1⟩,0⟩)
def zdI (f:Nat→V):(ss:List (Nat×Bool×List CT))→Option (zbA ss)
 | []=>some ()
 | s::ss=>match zy s.2.1 (f s.1)with
  | some cs=>match zdH s.2.2 cs,zdI f ss with
   | some d,some ds=>some (d,ds)
   | _,_=>none
  | none=>none
def zdG (f:Nat→Option (List C)):(ss:List (Nat×List CT))→Option (zbz ss)
 | []=>some ()
 | s::ss=>match f s.1 with
  | some cs=>match zdH s.2 cs,zdG f ss with
   | some d,some ds=>some (d,ds)
   | _,_=>none
  | none=>none
def zeQ (f:Nat→Option Entry):(ss:List (Nat×Ty×Ann))→Option (zco ss)
 | []=>some ()
 | s::ss=>match f s.1 with
  | some e=>bif e.pk.a.beq s.2.2 then(match zad e.pk.t s.2.1 e.pk.l,zeQ f ss with
   | some d,some ds=>some (d,ds)
   | _,_=>none)else none
  | none=>none
def Shape.keys (h:Shape):List Nat:=h.boxes.map (·.1)++h.regs.map (·.1)
def Shape.ok (h:Shape):Bool:=(h.slots.all fun s=>s.2.2.all (CT.ok h.keys))&&(h.boxes.all fun s=>s.2.all (CT.ok h.keys))
def Shape.enc (h:Shape) (nt:Nat) (x:h.X):St :={ nt,tmps:=zcK h.slots x.1,sh:={ boxes:=zcJ h.boxes x.2.1,regs:=zdp h.regs x.2.2 },used:=zeL h.keys }
def Shape.dec (h:Shape) (nt:Nat) (s:St):Option h.X :=
 bif h.ok&&Nat.beq s.nt nt then
  (match zdI s.tmps h.slots,zdG s.sh.boxes h.boxes,zeQ s.sh.regs h.regs with
  | some a,some b,some c=>some (a,b,c)
  | _,_,_=>none)else none
def Shape.d (h:Shape):LoopD:=⟨h.slots.map (·.1),h.boxes.map (·.1),h.regs.map (·.1),fun _=>0⟩
theorem zej {t u:Ty} {l:List t.D} {l':List u.D} (e:zad t u l=some l'): ∃h:t=u,l'=h ▸ l:=by
 unfold zad at e;split at e
 ·rename_i h _
  simp at e;exact⟨h,e.symm⟩
 ·simp at e
theorem CT.dec_enc: ∀{c:CT} {v:C} {d:c.D},c.dec v=some d→c.enc d=v
 | .int k,v,d,e=>by
  cases v<;>simp only[CT.dec]at e
  case int j n =>
   split at e
   ·rename_i x _; obtain⟨x⟩:=x; subst x; simp at e; subst e; rfl
   ·simp at e
  all_goals simp at e
 | .bool,v,d,e=>by
  cases v<;>simp only[CT.dec]at e
  case bool b=>simp at e; subst e; rfl
  all_goals simp at e
 | .fz t,v,d,e=>by
  cases v<;>simp only[CT.dec]at e
  case fz u l=>obtain⟨h,rfl⟩:=zej e; subst h; rfl
  all_goals simp at e
 | .br t,v,d,e=>by
  cases v<;>simp only[CT.dec]at e
  case br u l=>obtain⟨h,rfl⟩:=zej e; subst h; rfl
  all_goals simp at e
 | .at k,v,d,e=>by
  cases v<;>simp only[CT.dec]at e
  case «at» j =>
   cases hb:Nat.beq j k with
   | true=>have:=Nat.eq_of_beq_eq_true hb; subst this; rfl
   | false=>rw[hb]at e; simp at e
  all_goals simp at e
 | .ptr k off,v,d,e=>by
  cases v<;>simp only[CT.dec]at e
  case ptr j o =>
   cases hb:(Nat.beq j k&&Nat.beq o off)with
   | true =>
    simp only[Bool.and_eq_true]at hb;have h1:=Nat.eq_of_beq_eq_true hb.1;have h2:=Nat.eq_of_beq_eq_true hb.2;subst h1 h2; rfl
   | false=>rw[hb]at e; simp at e
  all_goals simp at e
 | .nil,v,d,e=>by
  cases v<;>simp only[CT.dec]at e
  case nil=>rfl
  all_goals simp at e
 | .fx f t,v,d,e=>by
  cases v<;>simp only[CT.dec]at e
  case fx i u x =>
   cases hb:Nat.beq i f with
   | false=>rw[hb]at e; simp at e
   | true =>
    rw[hb]at e; simp only[cond_true]at e;have:=Nat.eq_of_beq_eq_true hb;subst this;obtain⟨rfl,rfl⟩:=zfk e;rfl
  all_goals simp at e
 | .ci k n,v,d,e=>by
  cases v<;>simp only[CT.dec]at e
  case int j m =>
   split at e
   ·rename_i x _
    obtain⟨x⟩:=x; subst x;cases hb:decide (m=n)with
    | true=>have:=of_decide_eq_true hb; subst this; rfl
    | false=>rw[hb]at e; simp at e
   ·simp at e
  all_goals simp at e
 | .cb b,v,d,e=>by
  cases v<;>simp only[CT.dec]at e
  case bool d=>cases d<;>cases b<;>simp at e<;>rfl
  all_goals simp at e
theorem zc2: ∀{cs:List CT} {vs:List C} {d:zdC cs},zdH cs vs=some d→zb4 cs d=vs
 | [],[],_,_=>rfl
 | c::cs,v::vs,d,e=>by
  simp only[zdH]at e;split at e
  ·rename_i x xs h1 h2
   simp at e; subst e;simp only[zb4];rw[CT.dec_enc h1,zc2 h2]
  ·simp at e
 | [],_::_,_,e=>by simp[zdH]at e
 | _::_,[],_,e=>by simp[zdH]at e
theorem CT.ok_enc {keys:List Nat} {c:CT} {d:c.D} (h:c.ok keys=true):okC keys (c.enc d)=true:=by
 cases c<;>first | rfl | exact h
theorem zft {keys:List Nat}: ∀{cs:List CT} {d:zdC cs},cs.all (CT.ok keys)=true→(zb4 cs d).all (okC keys)=true
 | [],_,_=>rfl
 | c::cs,d,h=>by
  simp only[List.all_cons,Bool.and_eq_true]at h;simp only[zb4,List.all_cons,Bool.and_eq_true];exact⟨CT.ok_enc h.1,zft h.2⟩
theorem zfD {ag:Bool} {v:V} {cs:List C} (e:zy ag v=some cs):zv ag cs=v:=by
 cases v<;>simp only[zy]at e
 case c x=>cases ag<;>simp at e; subst e; rfl
 case agg l=>cases ag<;>simp at e; subst e; rfl
 all_goals simp at e
theorem zhW {keys:List Nat} {ag:Bool} {cs:List C} (h:cs.all (okC keys)=true):okV keys (zv ag cs)=true:=by
 unfold zv;cases ag with
 | true=>exact h
 | false =>
  simp only[cond_false];split
  ·simp only[List.all_cons,List.all_nil,Bool.and_true]at h; exact h
  ·rfl
theorem zdo {f:Nat→V}: ∀{ss:List (Nat×Bool×List CT)} {x:zbA ss},zdI f ss=some x→tab .junk f (ss.map (·.1))=zcK ss x ∧
  ∀keys,(ss.all fun s=>s.2.2.all (CT.ok keys))=true→((ss.map (·.1)).all fun i=>okV keys (f i))=true
 | [],_,_=>⟨rfl,fun _ _=>rfl⟩
 | s::ss,x,e=>by
  simp only[zdI]at e;split at e
  ·rename_i cs hc
   split at e
   ·rename_i d ds h1 h2
    simp at e; subst e;obtain⟨h3,h4⟩:=zdo h2;have hv:zv s.2.1 (zb4 s.2.2 d)=f s.1:=by rw[zc2 h1]; exact zfD hc
    refine⟨?_,fun keys hk=> ?_⟩
    ·simp only[List.map_cons,tab,zcK]
     rw[h3,hv]
    ·simp only[List.all_cons,Bool.and_eq_true]at hk
     simp only[List.map_cons,List.all_cons,Bool.and_eq_true];refine⟨?_,h4 keys hk.2⟩;rw[← hv];exact zhW (zft hk.1)
   ·simp at e
  ·simp at e
theorem zdn {f:Nat→Option (List C)}: ∀{ss:List (Nat×List CT)} {x:zbz ss},zdG f ss=some x→tab none f (ss.map (·.1))=zcJ ss x ∧
  ∀keys,(ss.all fun s=>s.2.all (CT.ok keys))=true→((ss.map (·.1)).all fun i=>zj1 keys (f i))=true
 | [],_,_=>⟨rfl,fun _ _=>rfl⟩
 | s::ss,x,e=>by
  simp only[zdG]at e;split at e
  ·rename_i cs hc
   split at e
   ·rename_i d ds h1 h2
    simp at e; subst e;obtain⟨h3,h4⟩:=zdn h2;refine⟨?_,fun keys hk=> ?_⟩
    ·simp only[List.map_cons,tab,zcJ]
     rw[h3,zc2 h1,hc]
    ·simp only[List.all_cons,Bool.and_eq_true]at hk
     simp only[List.map_cons,List.all_cons,Bool.and_eq_true];refine⟨?_,h4 keys hk.2⟩;rw[hc];show cs.all (okC keys)=true;rw[← zc2 h1];exact zft hk.1
   ·simp at e
  ·simp at e
theorem zd9 {f:Nat→Option Entry}: ∀{ss:List (Nat×Ty×Ann)} {x:zco ss},zeQ f ss=some x→tab none (fun k=>zdt (f k)) (ss.map (·.1))=zdp ss x
 | [],_,_=>rfl
 | s::ss,x,e=>by
  simp only[zeQ]at e;split at e
  ·rename_i en hc
   cases hb:en.pk.a.beq s.2.2 with
   | true =>
    rw[hb]at e; simp only[cond_true]at e;split at e
    ·rename_i d ds h1 h2
     simp at e; subst e;simp only[List.map_cons,tab,zdp];rw[zd9 h2];congr 1;obtain⟨k,t,a⟩:=s;obtain⟨⟨t',a',l⟩,ver⟩:=en;simp only at hb h1 hc ⊢;have ha:=Ann.eq_of_beq hb;subst ha;obtain⟨h,rfl⟩:=zej h1;subst h;rw[hc]; rfl
    ·simp at e
   | false=>rw[hb]at e; simp at e
  ·simp at e
theorem zi3 {n0:Nat} {M:Nat→Prop} {h0:Home} {s:St} {g:Gh} {X:List Nat} {a:Act} {w:World} (r:Rel n0 M h0 s g X a w) {h:Shape} {nt:Nat} {x:h.X} (e:h.dec nt s=some x) :
  Rel n0 M h0 (h.enc nt x) g X a w:=by
 unfold Shape.dec at e;cases hb:(h.ok&&Nat.beq s.nt nt)with
 | false=>rw[hb]at e; simp at e
 | true =>
  rw[hb]at e; simp only[cond_true]at e;simp only[Bool.and_eq_true]at hb;obtain⟨hok,hnt⟩:=hb;have hnt:=Nat.eq_of_beq_eq_true hnt;unfold Shape.ok at hok;simp only[Bool.and_eq_true]at hok;split at e
  ·rename_i x1 x2 x3 h1 h2 h3
   simp at e; subst e;obtain⟨e1,k1⟩:=zdo h1;obtain⟨e2,k2⟩:=zdn h2;have e3:=zd9 h3
   have hn:ziI h.d s=some (h.enc nt (x1,x2,x3)):=by
    unfold ziI
    have:okN h.d s=true:=by
     unfold okN;simp only[Bool.and_eq_true];exact⟨k1 h.keys hok.1,k2 h.keys hok.2⟩
    rw[this];simp only[cond_true,Option.some.injEq];unfold zb7 Shape.enc;rw[hnt];simp only[Shape.d];rw[e1,e2,e3];rfl
   exact ziJ r hn
  ·simp at e
def Ty.Ok:(t:Ty)→t.D→Prop
 | .int k,n=>zaw k n
 | .bool,_=>True
 | .sl t,l=>l.length*t.bytes≤2^47∧ ∀x∈l,t.Ok x
 | .pr a b,x=>a.Ok x.1∧b.Ok x.2
 | .st _ t,x=>t.Ok x
theorem Rd.ok {h:za} {Z:Nat→Prop}: ∀{t:Ty} {x:t.D} {cs:List Value},Rd h Z t x cs→t.Ok x
 | .int _,_,_,e=>e.2
 | .bool,_,_,_=>trivial
 | .sl t,l,cs,e=>by
  obtain⟨a,cap,_,hb,_,e⟩:=e;refine⟨hb,fun x hx=> ?_⟩;rcases e with rfl | ⟨b,o,_,_,e⟩
  ·simp at hx
  ·obtain⟨i,hi,rfl⟩:=List.getElem_of_mem hx
   obtain⟨vs,_,h2⟩:=e i l[i] (by simp[hi]);exact Rd.ok h2
 | .pr a b,_,_,e=>by
  obtain⟨c1,c2,_,h1,h2⟩:=e;exact⟨Rd.ok h1,Rd.ok h2⟩
 | .st _ t,_,_,e=>Rd.ok (t:=t) e
def CT.Ok:(c:CT)→c.D→Prop
 | .int k,n=>zaw k n
 | .fz t,l=>(Ty.sl t).Ok l
 | .br t,l=>(Ty.sl t).Ok l
 | .fx _ t,x=>t.Ok x
 | _,_=>True
def zgE:(cs:List CT)→zdC cs→Prop
 | [],_=>True
 | c::cs,x=>c.Ok x.1∧zgE cs x.2
def zf4:(ss:List (Nat×Bool×List CT))→zbA ss→Prop
 | [],_=>True
 | s::ss,x=>zgE s.2.2 x.1∧zf4 ss x.2
def zf3:(ss:List (Nat×List CT))→zbz ss→Prop
 | [],_=>True
 | s::ss,x=>zgE s.2 x.1∧zf3 ss x.2
def zgJ:(ss:List (Nat×Ty×Ann))→zco ss→Prop
 | [],_=>True
 | s::ss,x=>(Ty.sl s.2.1).Ok x.1∧zgJ ss x.2
def Shape.Ok (h:Shape) (x:h.X):Prop:=zf4 h.slots x.1∧zf3 h.boxes x.2.1∧zgJ h.regs x.2.2
def Shape.fine (h:Shape) (nt:Nat):Bool:=zaf (h.slots.map (·.1))&&zaf (h.boxes.map (·.1))&&zaf (h.regs.map (·.1))&&(h.slots.all fun s=>Nat.blt s.1 nt&&(s.2.1||Nat.beq s.2.2.length 1))
def SlotsAt (f:Nat→V):(ss:List (Nat×Bool×List CT))→zbA ss→Prop
 | [],_=>True
 | s::ss,x=>f s.1=zv s.2.1 (zb4 s.2.2 x.1)∧SlotsAt f ss x.2
def BoxesAt (f:Nat→Option (List C)):(ss:List (Nat×List CT))→zbz ss→Prop
 | [],_=>True
 | s::ss,x=>f s.1=some (zb4 s.2 x.1)∧BoxesAt f ss x.2
def RegsAt (f:Nat→Option Entry):(ss:List (Nat×Ty×Ann))→zco ss→Prop
 | [],_=>True
 | s::ss,x=>f s.1=some ⟨⟨s.2.1,s.2.2,x.1⟩,0⟩∧RegsAt f ss x.2
theorem SlotsAt.upd {f:Nat→V} {k:Nat} {v:V}: ∀{ss:List (Nat×Bool×List CT)} {x:zbA ss},k∉ss.map (·.1)→SlotsAt f ss x→SlotsAt (Tf.zg f k v) ss x
 | [],_,_,_=>trivial
 | s::ss,x,h,e=>⟨by rw[zt _ _ (fun h2=>h (by simp[h2]))]; exact e.1,SlotsAt.upd (fun h2=>h (by simp only[List.map_cons,List.mem_cons]; exact .inr h2)) e.2⟩
theorem BoxesAt.upd {f:Nat→Option (List C)} {k:Nat} {v:Option (List C)}: ∀{ss:List (Nat×List CT)} {x:zbz ss},k∉ss.map (·.1)→BoxesAt f ss x→BoxesAt (Tf.zg f k v) ss x
 | [],_,_,_=>trivial
 | s::ss,x,h,e=>⟨by rw[zt _ _ (fun h2=>h (by simp[h2]))]; exact e.1,BoxesAt.upd (fun h2=>h (by simp only[List.map_cons,List.mem_cons]; exact .inr h2)) e.2⟩
theorem RegsAt.upd {f:Nat→Option Entry} {k:Nat} {v:Option Entry}: ∀{ss:List (Nat×Ty×Ann)} {x:zco ss},k∉ss.map (·.1)→RegsAt f ss x→RegsAt (Tf.zg f k v) ss x
 | [],_,_,_=>trivial
 | s::ss,x,h,e=>⟨by rw[zt _ _ (fun h2=>h (by simp[h2]))]; exact e.1,RegsAt.upd (fun h2=>h (by simp only[List.map_cons,List.mem_cons]; exact .inr h2)) e.2⟩
theorem zdi {k:Nat} {l:List Nat} (h:zaf (k::l)=true):k∉l∧zaf l=true:=by
 simp only[zaf,Bool.and_eq_true,Bool.not_eq_true']at h;exact⟨fun hk=>by rw[zq.2 hk]at h; simp at h,h.2⟩
theorem ze2: ∀{ss:List (Nat×Bool×List CT)} {x:zbA ss},zaf (ss.map (·.1))=true→SlotsAt (zcK ss x) ss x
 | [],_,_=>trivial
 | s::ss,x,h=>by
  obtain⟨h1,h2⟩:=zdi h;exact⟨zx _ _ _,SlotsAt.upd h1 (ze2 h2)⟩
theorem ze1: ∀{ss:List (Nat×List CT)} {x:zbz ss},zaf (ss.map (·.1))=true→BoxesAt (zcJ ss x) ss x
 | [],_,_=>trivial
 | s::ss,x,h=>by
  obtain⟨h1,h2⟩:=zdi h;exact⟨zx _ _ _,BoxesAt.upd h1 (ze1 h2)⟩
theorem zfI: ∀{ss:List (Nat×Ty×Ann)} {x:zco ss},zaf (ss.map (·.1))=true→RegsAt (zdp ss x) ss x
 | [],_,_=>trivial
 | s::ss,x,h=>by
  obtain⟨h1,h2⟩:=zdi h;exact⟨zx _ _ _,RegsAt.upd h1 (zfI h2)⟩
theorem zkn {sh:Sh} {g:Gh} {h:za} {c:CT} {d:c.D} {v:Value} (e:CRel sh g h (c.enc d) v):c.Ok d:=by
 cases c<;>first | trivial | exact e.2 | exact Rd.ok e | (obtain⟨_,_,_,_,_,_,_,h⟩:=e; exact Rd.ok h)
theorem ziq {sh:Sh} {g:Gh} {h:za}: ∀{cs:List CT} {d:zdC cs} {vs:List Value},CRels sh g h (zb4 cs d) vs→zgE cs d
 | [],_,_,_=>trivial
 | c::cs,d,v::vs,e=>⟨zkn e.1,ziq e.2⟩
 | _::_,_,[],e=>e.elim
section
variable {n0:Nat} {M:Nat→Prop} {h0:Home} {s:St} {g:Gh} {X:List Nat} {a:Act} {w:World}
theorem zid (r:Rel n0 M h0 s g X a w): ∀{ss:List (Nat×Bool×List CT)} {x:zbA ss},SlotsAt s.tmps ss x→(ss.all fun q=>Nat.blt q.1 s.nt&&(q.2.1||Nat.beq q.2.2.length 1))=true→zf4 ss x
 | [],_,_,_=>trivial
 | q::ss,x,e,hb=>by
  simp only[List.all_cons,Bool.and_eq_true]at hb;refine⟨?_,zid r e.2 hb.2⟩;have hi:q.1<a.tmps.size:=by rw[r.sz]; exact Nat.le_of_ble_eq_true hb.1.1
  have hv:=r.tm q.1 a.tmps[q.1] (by simp[hi]);rw[e.1]at hv;obtain⟨i,ag,cts⟩:=q;cases ag with
  | true =>
   obtain⟨vs,_,h2⟩:=hv;exact ziq h2
  | false =>
   have hl:=Nat.eq_of_beq_eq_true (show Nat.beq cts.length 1=true from by simpa using hb.1.2)
   match cts,hl with
   | [c],_=>exact⟨zkn hv,trivial⟩
theorem zh5 (r:Rel n0 M h0 s g X a w): ∀{ss:List (Nat×List CT)} {x:zbz ss},BoxesAt s.sh.boxes ss x→zf3 ss x
 | [],_,_=>trivial
 | q::ss,x,e=>by
  refine⟨?_,zh5 r e.2⟩;obtain⟨c,T,_,h2⟩:=r.bx q.1 _ e.1;exact ziq h2
theorem zjn (r:Rel n0 M h0 s g X a w): ∀{ss:List (Nat×Ty×Ann)} {x:zco ss},RegsAt s.sh.regs ss x→zgJ ss x
 | [],_,_=>trivial
 | q::ss,x,e=>by
  refine⟨?_,zjn r e.2⟩;have:=r.rg q.1 _ e.1;exact Rd.ok (Own.rd (Z':=fun _=>True) (fun _ _=>trivial) (fun _ _=>trivial) this)
theorem zkp {h:Shape} {nt:Nat} {x:h.X} (r:Rel n0 M h0 (h.enc nt x) g X a w) (hf:h.fine nt=true):h.Ok x:=by
 unfold Shape.fine at hf;simp only[Bool.and_eq_true]at hf;obtain⟨⟨⟨h1,h2⟩,h3⟩,h4⟩:=hf;exact⟨zid r (ze2 h1) h4,zh5 r (ze1 h2),zjn r (zfI h3)⟩
end
def zj2:List (Nat×Ty×Ann)→Nat→Option (Ty×Ann)
 | [],_=>none
 | p::l,k=>bif Nat.beq p.1 k then some p.2 else zj2 l k
def zgH (s:St) (tk:Nat) (t:Ty) (an:Ann) (c:C):Option (C×St) :=
 match mvC s.sh (.ow an) (.sl t) c with
 | some (.sl u l,sh)=>match zV { s with sh:=sh } tk ⟨u,an,l⟩with
  | some s'=>some (.at tk,s')
  | none=>none
 | _=>none
def zht (rs:List (Nat×Ty×Ann)) (tk:Nat) (s:St):CT→C→Option (C×St)
 | .at k,c=>match zj2 rs k with
  | some (t,an)=>match c with
   | .at j=>match s.sh.regs j with
    | some e=>bif e.pk.a.beq an then some (.at j,s)else zgH s tk t an c
    | none=>none
   | _=>zgH s tk t an c
  | none=>none
 | .fz t,c=>match c with
  | .fz u l=>some (.fz u l,s)
  | .nil=>some (.fz t [],s)
  | _=>match mvC s.sh .fz (.sl t) c with
   | some (.sl u l,sh)=>some (.fz u l,{ s with sh:=sh })
   | _=>none
 | .br t,c=>match c with
  | .fz u l=>some (.br u l,s)
  | .nil=>some (.br t [],s)
  | _=>some (c,s)
 | _,c=>some (c,s)
def zc4 (rs:List (Nat×Ty×Ann)):List CT→Nat→List C→St→Option (List C×St)
 | [],_,[],s=>some ([],s)
 | ct::cts,n,c::cs,s=>match zht rs (950000000+n) s ct c with
  | some (c',s1)=>match zc4 rs cts (n+1) cs s1 with
   | some (cs',s2)=>some (c'::cs',s2)
   | none=>none
  | none=>none
 | _,_,_,_=>none
def zcM (rs:List (Nat×Ty×Ann)):List (Nat×Bool×List CT)→Nat→St→Option St
 | [],_,s=>some s
 | p::ss,n,s=>bif Nat.blt p.1 s.nt then(match zy p.2.1 (s.tmps p.1)with
  | some cs=>match zc4 rs p.2.2 n cs s with
   | some (cs',s1)=>zcM rs ss (n+p.2.2.length) (s1.put p.1 (zv p.2.1 cs'))
   | none=>none
  | none=>none)else none
def zcL (rs:List (Nat×Ty×Ann)):List (Nat×List CT)→Nat→St→Option St
 | [],_,s=>some s
 | p::bs,n,s=>match s.sh.boxes p.1 with
  | some cs=>match zc4 rs p.2 n cs s with
   | some (cs',s1)=>zcL rs bs (n+p.2.length) { s1 with sh:={ s1.sh with boxes:=zg s1.sh.boxes p.1 (some cs') } }
   | none=>none
  | none=>none
def zgG (s:St):CT→Option C→Option St
 | .at k,some (.at j)=>bif Nat.beq j k then some s else bif Nat.blt j 1000000000&&Nat.blt k 1000000000 then some (s.ren j k)else none
 | .at _,_=>none
 | _,_=>some s
def zkm (s:St) (ag:Bool) (i m:Nat):Option C :=
 match zy ag (s.tmps i)with
 | some cs=>cs[m]?
 | none=>none
def zkv (s:St) (k m:Nat):Option C :=
 match s.sh.boxes k with
 | some cs=>cs[m]?
 | none=>none
def zcQ (i:Nat) (ag:Bool):List CT→Nat→St→Option St
 | [],_,s=>some s
 | ct::cts,m,s=>match zgG s ct (zkm s ag i m)with
  | some s'=>zcQ i ag cts (m+1) s'
  | none=>none
def zdx (k:Nat):List CT→Nat→St→Option St
 | [],_,s=>some s
 | ct::cts,m,s=>match zgG s ct (zkv s k m)with
  | some s'=>zdx k cts (m+1) s'
  | none=>none
def zcv:List (Nat×Bool×List CT)→St→Option St
 | [],s=>some s
 | p::ss,s=>match zcQ p.1 p.2.1 p.2.2 0 s with
  | some s'=>zcv ss s'
  | none=>none
def zcu:List (Nat×List CT)→St→Option St
 | [],s=>some s
 | p::bs,s=>match zdx p.1 p.2 0 s with
  | some s'=>zcu bs s'
  | none=>none
def Shape.fix (h:Shape) (s:St):Option St :=
 match zcM h.regs h.slots 0 s with
 | some s1=>match zcL h.regs h.boxes 10000 s1 with
  | some s2=>match zcv h.slots s2 with
   | some s3=>zcu h.boxes s3
   | none=>none
  | none=>none
 | none=>none
def Shape.decf (h:Shape) (nt:Nat) (s:St):Option h.X :=
 match h.fix s with
 | some s'=>h.dec nt s'
 | none=>none
section
variable {n0:Nat} {M:Nat→Prop} {h0:Home} {s s':St} {g:Gh} {X:List Nat} {a:Act} {w:World}
def Carry (s s':St) (g g':Gh) (h:za):Prop :=(∀k,s.used k=true→s'.used k=true)∧(∀cs vs,CRels s.sh g h cs vs→(∀c∈cs,∀k∈c.refs,s.used k=true)→CRels s'.sh g' h cs vs)∧s'.tmps=s.tmps∧s'.nt=s.nt∧s'.sh.boxes=s.sh.boxes∧g'.bx=g.bx
theorem Carry.refl (s:St) (g:Gh) (h:za):Carry s s g g h:=⟨fun _ h=>h,fun _ _ h _=>h,rfl,rfl,rfl,rfl⟩
theorem Carry.trans {s1 s2 s3:St} {g1 g2 g3:Gh} {h:za} (a:Carry s1 s2 g1 g2 h) (b:Carry s2 s3 g2 g3 h):Carry s1 s3 g1 g3 h :=⟨fun k hk=>b.1 k (a.1 k hk),fun cs vs hc hu=>b.2.1 cs vs (a.2.1 cs vs hc hu) (fun c hc k hk=>a.1 k (hu c hc k hk)),b.2.2.1.trans a.2.2.1,b.2.2.2.1.trans a.2.2.2.1,b.2.2.2.2.1.trans a.2.2.2.2.1,b.2.2.2.2.2.trans a.2.2.2.2.2⟩
theorem zhk (r:Rel n0 M h0 s g X a w) {an:Ann} {t:Ty} {c:C} {d:LD} {sh':Sh} {Z':Nat→Prop} (e:mvC s.sh an t c=some (d,sh')) (hz: ∀b,g.Z b→Z' b):Carry s { s with sh:=sh' } g { g with Z:=Z' } (hp w):=by
 obtain⟨sb,sr⟩:=zgb e;exact⟨fun _ h=>h,fun cs vs h _=>CRels.over (zbK hz) r.rg (fun c _ k _=>zaB sb sr k) h,rfl,rfl,sb,rfl⟩
theorem zfh (r:Rel n0 M h0 s g X a w) {tk:Nat} {t:Ty} {an:Ann} {c c':C} {v:Value} (e:zgH s tk t an c=some (c',s')) (hv:CRel s.sh g (hp w) c v) :
  ∃g' X',Rel n0 M h0 s' g' X' a w∧CRel s'.sh g' (hp w) c' v∧(∀k∈c'.refs,s'.used k=true)∧Carry s s' g g' (hp w):=by
 unfold zgH at e;split at e
 ·rename_i u l sh hm
  split at e
  ·rename_i s1 hn
   simp at e; obtain⟨rfl,rfl⟩:=e;obtain⟨Z',f,X',hz,r1,hp1,ho⟩:=zex r hm hv;obtain⟨g2,hz2,hr2,hbx2,hbo2,r2,hc2,hu2,hk2,hk3⟩:=zey r1 hn hp1 ho;have c1:=zhk r hm hz
   have c2:Carry { s with sh:=sh } s1 { g with Z:=Z' } g2 (hp w):=by
    refine⟨hk2,hk3,?_,?_,hbo2,hbx2⟩
    ·unfold zV at hn
     cases hs:s.used tk<;>rw[hs]at hn<;>simp at hn;subst hn; rfl
    ·unfold zV at hn
     cases hs:s.used tk<;>rw[hs]at hn<;>simp at hn;subst hn; rfl
   exact⟨g2,X,r2,hc2,fun k hk=>by simp[C.refs]at hk; subst hk; exact hu2,c1.trans c2⟩
  ·simp at e
 ·simp at e
theorem ziN (r:Rel n0 M h0 s g X a w) {rs:List (Nat×Ty×Ann)} {tk:Nat} {ct:CT} {c c':C} {v:Value} (e:zht rs tk s ct c=some (c',s')) (hv:CRel s.sh g (hp w) c v)
  (hu: ∀k∈c.refs,s.used k=true): ∃g' X',Rel n0 M h0 s' g' X' a w∧CRel s'.sh g' (hp w) c' v∧(∀k∈c'.refs,s'.used k=true)∧Carry s s' g g' (hp w):=by
 have same:some (c,s)=some (c',s')→ ∃g' X',Rel n0 M h0 s' g' X' a w∧CRel s'.sh g' (hp w) c' v∧(∀k∈c'.refs,s'.used k=true)∧Carry s s' g g' (hp w):=by
  intro h;simp at h; obtain⟨rfl,rfl⟩:=h;exact⟨g,X,r,hv,hu,Carry.refl _ _ _⟩
 cases ct with
 | «at» k =>
  simp only[zht]at e;split at e
  ·rename_i t an _
   split at e
   ·rename_i j
    split at e
    ·rename_i en hen
     cases hb:en.pk.a.beq an with
     | true=>rw[hb]at e; exact same (by simpa using e)
     | false=>rw[hb]at e; exact zfh r (by simpa using e) hv
    ·simp at e
   ·exact zfh r e hv
  ·simp at e
 | fz t =>
  simp only[zht]at e;split at e
  ·exact same e
  ·simp at e; obtain⟨rfl,rfl⟩:=e
   simp only[CRel]at hv; subst hv;exact⟨g,X,r,zbM,by simp[C.refs],Carry.refl _ _ _⟩
  ·split at e
   ·rename_i u l sh hm
    simp at e; obtain⟨rfl,rfl⟩:=e;obtain⟨Z',f,X',hz,r1,hp1,ho⟩:=zex r hm hv;have ho2:Own (hp w) Z' (.sl u) .fz l [v] f:=ho;obtain⟨hrd,rfl⟩:=zfR ho2;exact⟨_,X',r1,hrd,by simp[C.refs],zhk r hm hz⟩
   ·simp at e
 | br t =>
  simp only[zht]at e;split at e
  ·simp at e; obtain⟨rfl,rfl⟩:=e
   exact⟨g,X,r,Rd.keep (fun _ _=>rfl) (fun b hb=> .inl hb) hv,by simp[C.refs],Carry.refl _ _ _⟩
  ·simp at e; obtain⟨rfl,rfl⟩:=e
   simp only[CRel]at hv; subst hv;exact⟨g,X,r,zbM,by simp[C.refs],Carry.refl _ _ _⟩
  ·exact same e
 | _=>exact same e
theorem zdf {rs:List (Nat×Ty×Ann)}: ∀{cts:List CT} {n:Nat} {cs cs':List C} {s s':St} {g:Gh} {X:List Nat} {vs:List Value},Rel n0 M h0 s g X a w→zc4 rs cts n cs s=some (cs',s')→CRels s.sh g (hp w) cs vs →
  (∀c∈cs,∀k∈c.refs,s.used k=true)→ ∃g' X',Rel n0 M h0 s' g' X' a w∧CRels s'.sh g' (hp w) cs' vs∧(∀c∈cs',∀k∈c.refs,s'.used k=true)∧Carry s s' g g' (hp w)
 | [],n,[],cs',s,s',g,X,[],r,e,hv,hu=>by
  simp[zc4]at e; obtain⟨rfl,rfl⟩:=e;exact⟨g,X,r,trivial,by simp,Carry.refl _ _ _⟩
 | ct::cts,n,c::cs,cs',s,s',g,X,v::vs,r,e,hv,hu=>by
  simp only[zc4]at e;split at e
  ·rename_i c1 s1 h1
   split at e
   ·rename_i cs2 s2 h2
    simp at e; obtain⟨rfl,rfl⟩:=e;obtain⟨g1,X1,r1,hc1,hu1,k1⟩:=ziN r h1 hv.1 (hu c (by simp));have hu': ∀c'∈cs,∀k∈c'.refs,s.used k=true:=fun c' hc'=>hu c' (by simp[hc'])
    obtain⟨g2,X2,r2,hc2,hu2,k2⟩:=zdf r1 h2 (k1.2.1 cs vs hv.2 hu') (fun c' hc' k hk=>k1.1 k (hu' c' hc' k hk));refine⟨g2,X2,r2,⟨(k2.2.1 [c1] [v] ⟨hc1,trivial⟩ (fun c' hc' k hk=>by simp at hc'; subst hc'; exact hu1 k hk)).1,hc2⟩,fun c' hc' k hk=> ?_,k1.trans k2⟩;rcases List.mem_cons.1 hc' with rfl | hc'
    ·exact k2.1 k (hu1 k hk)
    ·exact hu2 c' hc' k hk
   ·simp at e
  ·simp at e
 | [],_,_::_,_,_,_,_,_,_,_,e,_,_=>by simp[zc4]at e
 | _::_,_,[],_,_,_,_,_,_,_,e,_,_=>by simp[zc4]at e
 | [],_,[],_,_,_,_,_,_::_,_,_,hv,_=>hv.elim
 | _::_,_,_::_,_,_,_,_,_,[],_,_,hv,_=>hv.elim
theorem zhM {ag:Bool} {x:V} {cs:List C} {sh:Sh} {h:za} {v:Value} (e:zy ag x=some cs) (hv:VRel sh g h x v) :
  ∃vs,(v=bif ag then .agg vs.toArray else vs.headD undef)∧CRels sh g h cs vs∧(ag=false→cs.length=1):=by
 cases x<;>simp only[zy]at e
 case c x=>cases ag<;>simp at e; subst e; exact⟨[v],rfl,⟨hv,trivial⟩,fun _=>rfl⟩
 case agg l=>cases ag<;>simp at e; subst e; obtain⟨vs,rfl,h⟩:=hv; exact⟨vs,rfl,h,by simp⟩
 all_goals simp at e
theorem zhn {ag:Bool} {cs:List C} {sh:Sh} {h:za} {v:Value} {vs:List Value} (hv:v=bif ag then .agg vs.toArray else vs.headD undef) (hc:CRels sh g h cs vs):VRel sh g h (zv ag cs) v:=by
 cases ag with
 | true=>exact⟨vs,hv,hc⟩
 | false =>
  unfold zv;simp only[cond_false]
  match cs,vs,hc with
  | [],[],_=>trivial
  | [c],[v'],hc=>simp only[cond_false,List.headD_cons]at hv; rw[hv]; exact hc.1
  | _::_::_,_::_::_,_=>trivial
theorem Rel.setTmps (r:Rel n0 M h0 s g X a w) {t:Nat→V} {a':Act} (hsz:a'.tmps.size=s.nt) (hd:a'.defers= []) (ht: ∀i v,a'.tmps[i]? =some v→VRel s.sh g (hp w) (t i) v)
  (hu: ∀i k,k∈(t i).refs→s.used k=true):Rel n0 M h0 { s with tmps:=t } g X a' w where
 sz:=hsz
 df:=hd
 tm:=ht
 bx:=r.bx
 rg:=r.rg
 ub:=r.ub
 ur:=r.ur
 ut:=hu
 uc:=r.uc
 zs:=r.zs
 mine:=r.mine
 uniq:=r.uniq
 nd:=r.nd
 nx:=r.nx
 nn:=r.nn
 fr:=r.fr
 zn:=r.zn
 zl:=r.zl
 hh:=r.hh
 hb:=r.hb
 dz:=r.dz
 hi:=r.hi
 io:=r.io
theorem zb8 {ag:Bool} {cs:List C}: ∀k∈(zv ag cs).refs,∃c∈cs,k∈c.refs:=by
 intro k hk;unfold zv at hk;cases ag with
 | true=>simpa [V.refs,List.mem_flatMap]using hk
 | false =>
  simp only[cond_false]at hk;split at hk
  ·rename_i c; exact⟨c,by simp,hk⟩
  ·simp[V.refs]at hk
theorem Rel.setSlot (r:Rel n0 M h0 s g X a w) {i:Nat} {x:V} (hx: ∀v,a.tmps[i]? =some v→VRel s.sh g (hp w) x v) (hu: ∀k∈x.refs,s.used k=true):Rel n0 M h0 (s.put i x) g X a w :=
 r.setTmps (t:=zg s.tmps i x) r.sz r.df (fun j v hv=>by
  rw[zJ];split
  ·rename_i h; subst h; exact hx v hv
  ·exact r.tm j v hv) (fun j k hk=>by
  rw[zJ]at hk;split at hk
  ·exact hu k hk
  ·exact r.ut j k hk)
theorem zds {rs:List (Nat×Ty×Ann)}: ∀{ss:List (Nat×Bool×List CT)} {n:Nat} {s s':St} {g:Gh} {X:List Nat},Rel n0 M h0 s g X a w→zcM rs ss n s=some s'→ ∃g' X',Rel n0 M h0 s' g' X' a w
 | [],n,s,s',g,X,r,e=>by simp[zcM]at e; subst e; exact⟨g,X,r⟩
 | p::ss,n,s,s',g,X,r,e=>by
  simp only[zcM]at e;cases hlt:Nat.blt p.1 s.nt with
  | false=>rw[hlt]at e; simp at e
  | true =>
   rw[hlt]at e; simp only[cond_true]at e;split at e
   ·rename_i cs hc
    split at e
    ·rename_i cs1 s1 h1
     have hi:p.1<a.tmps.size:=by
      rw[r.sz]; exact Nat.le_of_ble_eq_true hlt
     have hv:=r.tm p.1 a.tmps[p.1] (by simp[hi]);obtain⟨vs,hval,hcr,_⟩:=zhM hc hv
     have hu: ∀c∈cs,∀k∈c.refs,s.used k=true:=fun c hc' k hk=>r.ut p.1 k (by
      have:zv p.2.1 cs=s.tmps p.1:=zfD hc;rw[← this];revert hc;cases p.2.1 with
      | true=>intro _; exact List.mem_flatMap.2 ⟨c,hc',hk⟩
      | false =>
       intro hc;cases hx:s.tmps p.1<;>rw[hx]at hc<;>simp[zy]at hc;subst hc;simp at hc'; subst hc'
       exact hk)
     obtain⟨g1,X1,r1,hc1,hu1,k1⟩:=zdf r h1 hcr hu;refine zds (r1.setSlot (i:=p.1) (fun v hv'=> ?_) (fun k hk=> ?_)) e
     ·have:v=a.tmps[p.1]:=by simp[hi]at hv'; exact hv'.symm
      subst this;exact zhn hval hc1
     ·obtain⟨c,hc',hk'⟩:=zb8 k hk
      exact hu1 c hc' k hk'
    ·simp at e
   ·simp at e
theorem zdr {rs:List (Nat×Ty×Ann)}: ∀{bs:List (Nat×List CT)} {n:Nat} {s s':St} {g:Gh} {X:List Nat},Rel n0 M h0 s g X a w→zcL rs bs n s=some s'→ ∃g' X',Rel n0 M h0 s' g' X' a w
 | [],n,s,s',g,X,r,e=>by simp[zcL]at e; subst e; exact⟨g,X,r⟩
 | p::bs,n,s,s',g,X,r,e=>by
  simp only[zcL]at e;split at e
  ·rename_i cs hc
   split at e
   ·rename_i cs1 s1 h1
    obtain⟨c,T,hB,hcr⟩:=r.bx p.1 cs hc;obtain⟨g1,X1,r1,hc1,hu1,k1⟩:=zdf r h1 hcr (r.uc p.1 cs hc);have hb1:s1.sh.boxes p.1=some cs:=by rw[k1.2.2.2.2.1]; exact hc
    have:=(r1.relabel (ds:=cs1) hb1 (by rw[k1.2.2.2.2.2]; exact hB) hc1 hu1).1;exact zdr this e
   ·simp at e
  ·simp at e
theorem zfb (r:Rel n0 M h0 s g X a w) {ct:CT} {c:Option C} (e:zgG s ct c=some s'): ∃g',Rel n0 M h0 s' g' X a w:=by
 unfold zgG at e;split at e
 ·rename_i k j
  cases h1:Nat.beq j k with
  | true=>rw[h1]at e; simp at e; subst e; exact⟨g,r⟩
  | false =>
   rw[h1]at e; simp only[cond_false]at e;cases h2:(Nat.blt j 1000000000&&Nat.blt k 1000000000)with
   | true =>
    rw[h2]at e; simp at e; subst e;simp only[Bool.and_eq_true]at h2;exact⟨_,r.swap (Nat.le_of_ble_eq_true h2.1) (Nat.le_of_ble_eq_true h2.2)⟩
   | false=>rw[h2]at e; simp at e
 ·simp at e
 ·simp at e; subst e; exact⟨g,r⟩
theorem zdy {i:Nat} {ag:Bool}: ∀{cts:List CT} {m:Nat} {s s':St} {g:Gh},Rel n0 M h0 s g X a w→zcQ i ag cts m s=some s'→ ∃g',Rel n0 M h0 s' g' X a w
 | [],m,s,s',g,r,e=>by simp[zcQ]at e; subst e; exact⟨g,r⟩
 | ct::cts,m,s,s',g,r,e=>by
  simp only[zcQ]at e;split at e
  ·rename_i s1 h1
   obtain⟨g1,r1⟩:=zfb r h1;exact zdy r1 e
  ·simp at e
theorem zeb {k:Nat}: ∀{cts:List CT} {m:Nat} {s s':St} {g:Gh},Rel n0 M h0 s g X a w→zdx k cts m s=some s'→ ∃g',Rel n0 M h0 s' g' X a w
 | [],m,s,s',g,r,e=>by simp[zdx]at e; subst e; exact⟨g,r⟩
 | ct::cts,m,s,s',g,r,e=>by
  simp only[zdx]at e;split at e
  ·rename_i s1 h1
   obtain⟨g1,r1⟩:=zfb r h1;exact zeb r1 e
  ·simp at e
theorem zc7: ∀{ss:List (Nat×Bool×List CT)} {s s':St} {g:Gh},Rel n0 M h0 s g X a w→zcv ss s=some s'→ ∃g',Rel n0 M h0 s' g' X a w
 | [],s,s',g,r,e=>by simp[zcv]at e; subst e; exact⟨g,r⟩
 | p::ss,s,s',g,r,e=>by
  simp only[zcv]at e;split at e
  ·rename_i s1 h1
   obtain⟨g1,r1⟩:=zdy r h1;exact zc7 r1 e
  ·simp at e
theorem zc6: ∀{bs:List (Nat×List CT)} {s s':St} {g:Gh},Rel n0 M h0 s g X a w→zcu bs s=some s'→ ∃g',Rel n0 M h0 s' g' X a w
 | [],s,s',g,r,e=>by simp[zcu]at e; subst e; exact⟨g,r⟩
 | p::bs,s,s',g,r,e=>by
  simp only[zcu]at e;split at e
  ·rename_i s1 h1
   obtain⟨g1,r1⟩:=zeb r h1;exact zc6 r1 e
  ·simp at e
theorem za8 (r:Rel n0 M h0 s g X a w) {h:Shape} {nt:Nat} {x:h.X} (e:h.decf nt s=some x): ∃g' X',Rel n0 M h0 (h.enc nt x) g' X' a w:=by
 unfold Shape.decf at e;split at e
 ·rename_i s' hf
  unfold Shape.fix at hf;split at hf
  ·rename_i s1 h1
   split at hf
   ·rename_i s2 h2
    split at hf
    ·rename_i s3 h3
     obtain⟨g1,X1,r1⟩:=zds r h1;obtain⟨g2,X2,r2⟩:=zdr r1 h2;obtain⟨g3,r3⟩:=zc7 r2 h3;obtain⟨g4,r4⟩:=zc6 r3 hf;exact⟨g4,X2,zi3 r4 e⟩
    ·simp at hf
   ·simp at hf
  ·simp at hf
 ·simp at e
end
def zgR {α:Type} (s:St) (dst:Option Nat) (k ver:Nat) (p:zcy) (q:Pk) (n:Int) (con:Con) (K:St→Option α):Option α :=
 match con with
 | ⟨[.mt (.sl t) (.ow a),.rd (.int k1)],[⟨false,.int k2,_⟩],F⟩=>match s.sh.regs k with
  | some e=>bif Nat.beq e.ver ver&&q.a.beq a then(match zad q.t t q.l with
   | some l=>match F (l,(n,()))with
    | some r=>match zad t q.t r.2.1 with
     | some l2=>match e.pk.put p ⟨q.t,q.a,l2⟩with
      | some l3=>K ({ s with sh:={ s.sh with regs:=zg s.sh.regs k (some ⟨{ e.pk with l:=l3 },e.ver+1⟩) } }.putO dst (.c (.int k2 r.1.1)))
      | none=>none
     | none=>none
    | none=>none
   | none=>none)else none
  | none=>none
 | _=>none
def zim {α:Type} (E:Env) (s:St) (o:Oper) (c:Call) (K:St→Option α):Option α :=
 match c.callee with
 | .value (.func f)=>match c.args.toList.map (ze s)with
  | [.c (.nd k ver p q),.c (.int kk n)]=>match E.G f with
   | some con=>match con.ins with
    | [_,.rd (.int k1)]=>bif(match zb5 kk k1 with | some _=>true | none=>false)then zgR s o.dst k ver p q n con K else none
    | _=>none
   | none=>none
  | _=>none
 | _=>none
theorem zjo {h:za} {Z:Nat→Prop} {t:Ty} {a:Ann} {x:zaY [⟨false,t,a⟩]}: ∀{vs:List Value} {ds:List (List Nat)},zdD h Z [⟨false,t,a⟩] x vs ds→ ∃v d,vs= [v]∧ds= [d]∧ ∃cs,v=zaj t cs∧Own h Z t a x.1 cs d
 | [v],[d],e=>⟨v,d,rfl,rfl,e.1⟩
 | [],_,e=>by cases e
 | _::_,[],e=>by cases e
 | _::_::_,_::_,e=>e.2.elim
 | [_],_::_::_,e=>e.2.elim
theorem zjk {h:za} {Z:Nat→Prop} {t:Ty} {a:Ann} {k:IntKind} {x:zak [.mt t a,.rd (.int k)]} {u v:Value}: ∀{ms:List (List Nat)},zbY h Z [.mt t a,.rd (.int k)] x [u,v] ms→ ∃f,ms= [f,[]]∧ ∃cs,u=zaj t cs∧Own h Z t a x.1 cs f
 | [f,f2],e=>⟨f,by rw[e.2.1],e.1⟩
 | [],e=>by cases e
 | [_],e=>e.2.elim
 | _::_::_::_,e=>e.2.2.elim
section
variable {P:Program} {E:Env} {n0:Nat} {M:Nat→Prop} {h0:Home} {s s':St} {g:Gh} {X:List Nat} {a:Act} {w:World} {o:Oper}
theorem zgS {α:Type} (r:Rel n0 M h0 s g X a w) {f:FuncId} {con:Con} (hok:ConOk P f con) {dst:Option Nat} {k ver:Nat} {p:zcy} {q:Pk} {kk k1:IntKind} {n:Int} {p0:Par} {u:Value} {K:St→Option α} {out:α}
  (hins:con.ins= [p0,.rd (.int k1)]) (hkk:kk=k1) (hu:CRel s.sh g (hp w) (.nd k ver p q) u) (hn:zaw kk n) (e:zgR s dst k ver p q n con K=some out) :
  Calls P f #[u,.int kk n] w (fun en w'=> ∃s' g' X' v,en= .returned v∧K s'=some out∧Rel n0 M h0 s' g' X' (a.put dst v) w'):=by
 subst hkk;unfold zgR at e;split at e
 ·rename_i t an k1' k2 an2 F
  simp at hins;obtain⟨_,rfl⟩:=hins;split at e
  ·rename_i en hen
   cases hb:(Nat.beq en.ver ver&&q.a.beq an)with
   | false=>rw[hb]at e; simp at e
   | true =>
    rw[hb]at e; simp only[cond_true]at e;simp only[Bool.and_eq_true]at hb;have hver:=Nat.eq_of_beq_eq_true hb.1;have han:=Ann.eq_of_beq hb.2;subst han;split at e
    ·rename_i l hl
     obtain⟨rfl,rfl⟩:=zaE hl;split at e
     ·rename_i rr hF
      split at e
      ·rename_i l2 hl2
       obtain⟨hty,rfl⟩:=zaE hl2;have hty2:hty=rfl:=rfl;split at e
       ·rename_i l3 hput
        have hat:=(hu.2 en hen).2 hver;have hrg:=r.rg k en hen;obtain⟨fq,pre,post,hfp,hoq,hset⟩:=zdZ hrg hat;have hmem: ∀b∈fq,b∈g.fp k:=fun b hb=>by rw[hfp]; simp[hb]
        have hmine: ∀b∈g.fp k,Mine n0 M g w.heap.size b:=fun b hb=>r.mine (.reg k) b ⟨⟨en,hen⟩,hb⟩
        have hnd:=r.nd k en hen;have hnd2:(pre++fq++post).Nodup:=hfp ▸ hnd;obtain⟨hndl,hndp,hdis⟩:=List.nodup_append.1 hnd2;obtain⟨hndpre,hndfq,hdis2⟩:=List.nodup_append.1 hndl;have hlow: ∀b,g.Z b∨g.R b→b<w.heap.size:=r.zs
        have hcalls:=hok.run w g.Z g.R (q.l,(n,())) [u,.int _ n] [fq,[]] rr ⟨⟨[u],rfl,hoq⟩,⟨[.int _ n],rfl,rfl,hn⟩,rfl,trivial⟩ hF hlow (by simpa using hndfq)
         (fun b hb=>by
          have hb':b∈fq:=by simpa using hb
          have m:=hmine b (hmem b hb')
          exact⟨m.s,m.z,m.r⟩)
        refine hcalls.mono fun ending w' hd=> ?_
        obtain⟨vs,Z',ds,ms,rfl,hio,hsz,hsame,hZ,hZ2,hres,hmut,hndd,hav⟩:=hd;obtain⟨v,d,rfl,rfl,cs,rfl,hcs⟩:=zjo hres;obtain⟨f',rfl,us,hval,hown⟩:=zjk hmut;obtain⟨hrd,rfl⟩:=hcs;obtain⟨rfl,hfit⟩:=hrd
        have hus:us= [u]:=by
         have:=Own.len hown
         match us,this with
         | [u'],_=>simp[zaj,Ty.isSt]at hval; rw[hval]
        subst hus;have hfl:([fq,[]]:List (List Nat)).flatten=fq:=by simp
        rw[hfl]at hsame hZ2;simp only[List.flatten_cons,List.flatten_nil,List.append_nil,List.nil_append]at hndd hav
        have hnotfq: ∀b,b∈pre∨b∈post→b∉fq:=fun b hb hbq=>by
         rcases hb with hb | hb
         ·exact hdis2 b hb b hbq rfl
         ·exact hdis b (List.mem_append.2 (.inr hbq)) b hb rfl
        have hpp: ∀b,b∈pre∨b∈post→b∈g.fp k:=fun b hb=>by rw[hfp]; rcases hb with hb | hb<;>simp[hb]
        have hkeep: ∀b,b∈pre∨b∈post→hp w' b=hp w b:=fun b hb=>hsame b (hmine b (hpp b hb)).s (hnotfq b hb)
        have hzk: ∀b,g.Z b→hp w' b=hp w b:=fun b hz=>hsame b (r.zs b (.inl hz)) (fun h=>(hmine b (hmem b h)).z hz)
        have hnew:=hset (hp w') Z' rr.2.1 f' l3 hZ hzk (fun b hb=>hkeep b (.inl hb)) (fun b hb=>hkeep b (.inr hb)) hown hput;have hf': ∀b∈f',((w.heap.size≤b∧b<w'.heap.size)∨b∈fq)∧ ¬Z' b:=hav
        have hZpp: ∀b,b∈pre∨b∈post→ ¬Z' b:=fun b hb hz=>by
         rcases hZ2 b hz with h | h | h
         ·exact(hmine b (hpp b hb)).z h
         ·have:=(hmine b (hpp b hb)).s; omega
         ·exact hnotfq b hb h
        have hnewin: ∀b∈pre++f'++post,((w.heap.size≤b∧b<w'.heap.size)∨b∈g.fp k)∧ ¬Z' b:=fun b hb=>by
         rcases List.mem_append.1 hb with hb | hb
         ·rcases List.mem_append.1 hb with hb | hb
          ·exact⟨.inr (hpp b (.inl hb)),hZpp b (.inl hb)⟩
          ·exact⟨(hf' b hb).1.imp id (hmem b),(hf' b hb).2⟩
         ·exact⟨.inr (hpp b (.inr hb)),hZpp b (.inr hb)⟩
        have hf'pp: ∀b∈f',b∉pre∧b∉post:=fun b hb=>by
         rcases(hf' b hb).1 with h | h
         ·exact⟨fun h2=>by have:=(hmine b (hpp b (.inl h2))).s; omega,fun h2=>by have:=(hmine b (hpp b (.inr h2))).s; omega⟩
         ·exact⟨fun h2=>hnotfq b (.inl h2) h,fun h2=>hnotfq b (.inr h2) h⟩
        have hnn:(pre++f'++post).Nodup:=List.nodup_append.2 ⟨List.nodup_append.2 ⟨hndpre,hndd,fun b hb b' hb' heq=>by
          subst heq; exact(hf'pp b hb').1 hb⟩,hndp,fun b hb b' hb' heq=>by
         subst heq;rcases List.mem_append.1 hb with hb | hb
         ·exact hdis b (List.mem_append.2 (.inl hb)) b hb' rfl
         ·exact(hf'pp b hb).2 hb'⟩
        have hZoth: ∀o' b,zu s.sh g X o' b→o'≠ .reg k→ ¬Z' b:=fun o' b hh hne hz=>by
         rcases hZ2 b hz with h | h | h
         ·exact(r.mine o' b hh).z h
         ·have:=(r.mine o' b hh).s; omega
         ·exact hne (r.uniq o' (.reg k) b hh ⟨⟨en,hen⟩,hmem b h⟩)
        have r2:=r.call (hio:=hio) (w':=w') (Z':=Z') (kr:=fun j=>Nat.beq j k) (kb:=fun _=>false) (ne:=fun _=>⟨{ en.pk with l:=l3 },en.ver+1⟩) (nb:=fun _=> []) (nf:=fun _=>pre++f'++post) (X':=X)
         hsz (fun b hb h1 h2 _=>hsame b hb (fun hbq=>h2 k (by simp) (hmem b hbq))) hZ
         (fun b hz=>by
          rcases hZ2 b hz with h | h | h
          ·have:=r.zs b (.inl h); omega
          ·exact h.2
          ·have:=(hmine b (hmem b h)).s; omega)
         (fun b hz=>by
          rcases hZ2 b hz with h | h | h
          ·exact .inl h
          ·exact .inr (.inl h)
          ·exact .inr (.inr (.inr ⟨k,by simp,hmem b h⟩)))
         (fun j hj=>by
          have:=Nat.eq_of_beq_eq_true hj;subst this
          exact⟨en,hen,Nat.lt_succ_self _,hnn,hnew⟩)
         (fun j hj=>by simp at hj)
         (fun j hj b hb=>by
          have:=Nat.eq_of_beq_eq_true hj;subst this;obtain⟨h1,h2⟩:=hnewin b hb
          exact⟨h1.imp id (fun h=> .inr ⟨j,by simp,h⟩),h2⟩)
         (fun i j hi hj b _ _=>(Nat.eq_of_beq_eq_true hi).trans (Nat.eq_of_beq_eq_true hj).symm)
         (fun b hb=>⟨.inr (.inl hb),hZoth .ext b hb (by simp)⟩)
         (fun j hj b hb hbX=>by
          have:=Nat.eq_of_beq_eq_true hj;subst this;rcases(hnewin b hb).1 with h | h
          ·have:=(r.mine .ext b hbX).s; omega
          ·have:=r.uniq .ext (.reg j) b hbX ⟨⟨en,hen⟩,h⟩; simp at this)
         r.nx
         (fun j hj e2 he2 b hb=>hZoth (.reg j) b ⟨⟨e2,he2⟩,hb⟩ (fun h=>by simp at h; subst h; simp at hj))
         (fun j cs hc=>hZoth (.box j) _ ⟨⟨cs,hc⟩,rfl⟩ (by simp))
        have hsheq:zb6 s.sh (fun j=>Nat.beq j k) (fun _=>false) (fun _=>⟨{ en.pk with l:=l3 },en.ver+1⟩) (fun _=> [])={ s.sh with regs:=zg s.sh.regs k (some ⟨{ en.pk with l:=l3 },en.ver+1⟩) }:=by
         unfold zb6 zg;rfl
        rw[hsheq]at r2;refine⟨_,_,X,_,rfl,e,r2.putO ⟨rfl,hfit⟩ (by simp[V.refs,C.refs])⟩
       ·simp at e
      ·simp at e
     ·simp at e
    ·simp at e
  ·simp at e
 ·simp at e
theorem zhK {α:Type} (r:Rel n0 M h0 s g X a w) (hG:GOk P E) {c:Call} {K:St→Option α} {out:α} {next:Act→World→Prop} {Q:Exit→Act→World→Prop}
  (ho:o.op= .call c) (e:zim E s o c K=some out) (hK: ∀s' g' X' a' w',K s'=some out→Rel n0 M h0 s' g' X' a' w'→next a' w'):o.wp P a w next Q:=by
 obtain⟨callee,args,ts⟩:=c;unfold zim at e;split at e
 ·rename_i f hcal
  simp only at hcal e; subst hcal;split at e
  ·rename_i k ver p q kk n hargs
   split at e
   ·rename_i con hcon
    split at e
    ·rename_i p0 k1 hins
     cases hk:zb5 kk k1 with
     | none=>rw[hk]at e; simp at e
     | some pl =>
      rw[hk]at e; simp only[cond_true]at e;have hkk:=pl.down;have hok:=hG.con f con hcon;have hall:=zen r args.toList;rw[hargs]at hall
      match hm:args.toList.map a.eval,hall with
      | [u,v],hall =>
       obtain⟨hu,hv,_⟩:=hall;have hv2:v= .int kk n∧zaw kk n:=hv;unfold Oper.wp
       have hrun:(execOp a.eval o).run P w= .ok (.enter f #[u,.int kk n]) w:=by
        have hargs':(args.map a.eval)= #[u,.int kk n]:=by
         have:(args.map a.eval).toList= [u,v]:=by rw[Array.toList_map]; exact hm
         rw[hv2.1]at this;rw[← Array.toArray_toList (xs:=args.map a.eval),this]
        simp only[execOp,ho,resolve,Sem.run_bind];simp only[Act.eval,Deferred.ofValue,Sem.run_pure,Result.andThen_ok];simp only[invoke];have:(args.map a.eval)= #[u,.int kk n]:=hargs';rw[show args.map (fun x=>a.eval x)= #[u,.int kk n]from this];simpa using zeI (w:=w) (args:= #[u,.int kk n]) hok.fn
       rw[hrun,Oper.upon_enter];refine(zgS r hok hins hkk hu hv2.2 e).mono fun en w' hd=> ?_
       obtain⟨s',g',X',v',rfl,hK',r'⟩:=hd;exact hK s' g' X' _ w' hK' r'
    ·simp at e
   ·simp at e
  ·simp at e
 ·simp at e
end
def zbF (o:Oper):Bool :=
 match o.op with
 | .call c=>(match c.callee with
  | .value _=>true
  | _=>false)
 | _=>false
def doT {α:Type} (E:Env) (site:Nat) (s:St) (o:Oper) (K:St→Option α):Option α :=
 match o.op with
 | .call c=>bif zbF o then zc1 E site s o c K else
   (match zaI E site s o with
   | some (ok,s')=>bif ok then K s' else none
   | none=>none)
 | _=>match zaI E site s o with
  | some (ok,s')=>bif ok then K s' else none
  | none=>none
def zkr (E:Env) (s:St) (c:Call):Bool :=
 match c.callee with
 | .value (.func f)=>match c.args.toList.map (ze s)with
  | [.c (.nd _ _ _ _),.c (.int _ _)]=>match E.G f with
   | some con=>match con.ins with
    | [.mt _ _,.rd _]=>true
    | _=>false
   | none=>false
  | _=>false
 | _=>false
def doN {α:Type} (E:Env) (site:Nat) (s:St) (o:Oper) (K:St→Option α):Option α :=
 match o.op with
 | .call c=>bif zkr E s c then zim E s o c K else doT E site s o K
 | _=>doT E site s o K
def zaN (ops:List Oper) (j:Nat):Option Nat :=
 match ops[j]? with
 | some o=>o.dst
 | none=>none
def zcG (b want:Bool):Bool:=bif want then b else !b
def zeA {α:Type} (E:Env) (base:Nat) (all:List Oper):Nat→List Oper→St→(St→Option α)→Option α
 | _,[],s,K=>K s
 | j,o::os,s,K=>match o.guard with
  | none=>doN E (base+64*j) s o (fun s'=>zeA E base all (j+1) os s' K)
  | some (i,want)=>match zaN all i with
   | some d=>match ze s (.tmp d)with
    | .c (.bool b)=>bif zcG b want then
      (match some (s.put d (.c (.bool want)))with
      | some s=>doN E (base+64*j) s o (fun s'=>zeA E base all (j+1) os s' K)
      | none=>none)
     else zeA E base all (j+1) os ((s.put d (.c (.bool (!want)))).putO o.dst (.tup [])) K
    | .tup []=>zeA E base all (j+1) os (s.putO o.dst (.tup [])) K
    | _=>none
   | none=>none
section
variable {P:Program} {E:Env} {n0:Nat} {M:Nat→Prop} {h0:Home} {s s':St} {g:Gh} {X:List Nat} {a:Act} {w:World} {o:Oper}
theorem zel {α:Type} (r:Rel n0 M h0 s g X a w) (hE:EnvOk P E) (hG:GOk P E) {site:Nat} {K:St→Option α} {out:α} {next:Act→World→Prop} {Q:Exit→Act→World→Prop}
  (e:doT E site s o K=some out) (hK: ∀s' g' X' a' w',K s'=some out→Rel n0 M h0 s' g' X' a' w'→next a' w'):o.wp P a w next Q:=by
 have step:(match zaI E site s o with
   | some (ok,s')=>bif ok then K s' else none
   | none=>none)=some out→o.wp P a w next Q:=by
  intro e;split at e
  ·rename_i ok s' hs
   cases ok with
   | true=>exact(zh2 r hE hs).wp (fun g' X' a' w' r'=>hK _ _ _ _ _ e r')
   | false=>simp at e
  ·simp at e
 unfold doT at e;split at e
 ·rename_i c ho
  cases hc:zbF o with
  | true=>rw[hc]at e; exact zhL r hG ho e hK
  | false=>rw[hc]at e; exact step e
 ·exact step e
theorem zgk {α:Type} (r:Rel n0 M h0 s g X a w) (hE:EnvOk P E) (hG:GOk P E) {site:Nat} {K:St→Option α} {out:α} {next:Act→World→Prop} {Q:Exit→Act→World→Prop}
  (e:doN E site s o K=some out) (hK: ∀s' g' X' a' w',K s'=some out→Rel n0 M h0 s' g' X' a' w'→next a' w'):o.wp P a w next Q:=by
 unfold doN at e;split at e
 ·rename_i c ho
  cases hb:zkr E s c with
  | true=>rw[hb]at e; exact zhK r hG ho e hK
  | false=>rw[hb]at e; exact zel r hE hG e hK
 ·exact zel r hE hG e hK
theorem zc3 {d:Nat} {v:V} (h:ze s (.tmp d)=v) (hv:v≠ .junk):Nat.blt d s.nt=true∧s.tmps d=v:=by
 have h1:ze s (.tmp d)=(bif Nat.blt d s.nt then s.tmps d else .junk):=rfl;rw[h1]at h;cases hb:Nat.blt d s.nt with
 | true=>rw[hb]at h; exact⟨rfl,h⟩
 | false=>rw[hb]at h; exact absurd h.symm hv
theorem zgx {b want:Bool}:zcG b want=true↔b=want:=by cases b<;>cases want<;>simp[zcG]
theorem zd3 {d:Nat} {v:V} (h:s.tmps d=v):s.put d v=s:=by
 subst h;unfold St.put;congr 1;funext i;rw[zJ];split
 ·rename_i h; rw[h]
 ·rfl
theorem zeM {sh:Sh} {h:za}:VRel sh g h (.tup []) undef:=⟨[],rfl,trivial⟩
theorem zef {ops:Array Oper} {i d:Nat} (r:Rel n0 M h0 s g X a w) (hs:zaN ops.toList i=some d) (hb:ze s (.tmp d)= .tup []):yielded ops a.tmps i=none:=by
 obtain⟨hlt,htm⟩:=zc3 hb (by simp);have hev:=(zf r (.tmp d)).1;rw[hb]at hev;obtain⟨vs,hval,hvs⟩:=hev
 have hvs0:vs= []:=by
  match vs,hvs with
  | [],_=>rfl
 subst hvs0
 have hget:a.tmps[d]? =some (.tuple #[]):=by
  have hd2:d<a.tmps.size:=by rw[r.sz]; exact Nat.le_of_ble_eq_true hlt
  have h2:a.tmps.getD d undef= .tuple #[]:=hval;rw[Array.getD_eq_getD_getElem?,Array.getElem?_eq_getElem hd2]at h2;rw[Array.getElem?_eq_getElem hd2];simpa using h2
 unfold zaN at hs;split at hs
 ·rename_i o' ho'
  rw[Array.getElem?_toList]at ho';unfold yielded;simp[ho',hs,hget]
 ·simp at hs
theorem zfQ {α:Type} (hE:EnvOk P E) (hG:GOk P E) {base:Nat} {ops:Array Oper} {K:St→Option α} {out:α} {Q:Exit→Act→World→Prop}
  (hK: ∀s' g' X' a' w',K s'=some out→Rel n0 M h0 s' g' X' a' w'→Q .normal a' w') :
  ∀(l:List Oper) (j:Nat) (s:St) (g:Gh) (X:List Nat) (a:Act) (w:World),ops.toList.drop j=l→zeA E base ops.toList j l s K=some out→Rel n0 M h0 s g X a w →
   wpOps P ops Q (List.range' j l.length) a w
 | [],j,s,g,X,a,w,hd,e,r=>hK _ _ _ _ _ e r
 | o::os,j,s,g,X,a,w,hd,e,r=>by
  have ho:ops[j]? =some o:=by
   have:(ops.toList.drop j)[0]? =some o:=by rw[hd]; rfl
   rw[List.getElem?_drop]at this;simpa using this
  have hd':ops.toList.drop (j+1)=os:=by
   have:(ops.toList.drop j).drop 1=os:=by rw[hd]; rfl
   rw[List.drop_drop]at this; exact this
  have next: ∀s' g' X' a' w',zeA E base ops.toList (j+1) os s' K=some out→Rel n0 M h0 s' g' X' a' w'→wpOps P ops Q (List.range' (j+1) os.length) a' w' :=
   fun s' g' X' a' w' e' r'=>zfQ hE hG hK os (j+1) s' g' X' a' w' hd' e' r'
  simp only[List.length_cons,List.range'_succ,wpOps,ho];simp only[zeA]at e;split at e
  ·rename_i hg
   have hw:Region.wanted o (yielded ops a.tmps)=true:=by simp[Region.wanted,hg]
   rw[if_pos hw];exact .inl (zgk r hE hG e next)
  ·rename_i i want hg
   split at e
   ·rename_i d hsl
    split at e
    ·rename_i b hb
     have hev:=(zf r (.tmp d)).1;rw[hb]at hev;have hval:a.eval (.tmp d)= .bool b:=hev;obtain⟨hlt,htm⟩:=zc3 hb (by simp)
     have hget:a.tmps[d]? =some (.bool b):=by
      have hd2:d<a.tmps.size:=by rw[r.sz]; exact Nat.le_of_ble_eq_true hlt
      have h2:a.tmps.getD d undef= .bool b:=hval;rw[Array.getD_eq_getD_getElem?,Array.getElem?_eq_getElem hd2]at h2;rw[Array.getElem?_eq_getElem hd2];simpa using h2
     have hy:yielded ops a.tmps i=some b:=by
      unfold zaN at hsl;split at hsl
      ·rename_i o' ho'
       rw[Array.getElem?_toList]at ho';unfold yielded;simp[ho',hsl,hget]
      ·simp at hsl
     have hwant:Region.wanted o (yielded ops a.tmps)=zcG b want:=by
      unfold Region.wanted;rw[hg];simp only[hy];cases b<;>cases want<;>rfl
     cases hwb:zcG b want with
     | true =>
      rw[hwb]at e; simp only[cond_true]at e;have hbw:=zgx.1 hwb;rw[if_pos (by rw[hwant,hwb])];rw[zd3 (by rw[htm,hbw])]at e;exact .inl (zgk r hE hG e next)
     | false =>
      rw[hwb]at e; simp only[cond_false]at e;rw[if_neg (by rw[hwant,hwb]; simp)];have hbw:b= !want:=by cases b<;>cases want<;>simp_all [zcG]
      rw[zd3 (by rw[htm,hbw])]at e;exact next _ _ _ _ _ e (r.putO zeM (by simp[V.refs]))
    ·rename_i hb
     have hy:=zef r hsl hb;rw[if_neg (by unfold Region.wanted; rw[hg]; simp[hy])];exact next _ _ _ _ _ e (r.putO zeM (by simp[V.refs]))
    ·simp at e
   ·simp at e
end
def zal {α:Type} (K:Nat→Bool) (f u:Nat→α):Nat→α:=fun i=>bif K i then f i else u i
theorem z7 {α:Type} {K:Nat→Bool} {f u:Nat→α} {i:Nat} (h:K i=true):zal K f u i=f i:=by simp[zal,h]
theorem zU {α:Type} {K:Nat→Bool} {f u:Nat→α} {i:Nat} (h:K i=false):zal K f u i=u i:=by simp[zal,h]
theorem zcP {α:Type} {K:Nat→Bool} {f u:Nat→α} {i:Nat} {v:α} (h:K i=true):zg (zal K f u) i v=zal K (zg f i v) u:=by
 funext j;simp only[zal,zJ];by_cases hj:j=i
 ·subst hj; simp[h]
 ·simp[hj]
def zm (K:Nat→Bool) (s u:Sh):Sh:={ boxes:=zal K s.boxes u.boxes,regs:=zal K s.regs u.regs }
def zp (T K:Nat→Bool) (s u:St):St:={ nt:=s.nt,tmps:=zal T s.tmps u.tmps,sh:=zm K s.sh u.sh,used:=zal K s.used u.used }
section
variable {T K:Nat→Bool} {s u:St} {sh uh:Sh}
theorem zK {k:Nat} (h:K k=true):(zm K sh uh).regs k=sh.regs k:=z7 h
theorem zbR {k:Nat} (h:K k=true):(zm K sh uh).boxes k=sh.boxes k:=z7 h
theorem zau {k:Nat} {v:Option Entry} (h:K k=true):{ zm K sh uh with regs:=zg (zm K sh uh).regs k v }=zm K { sh with regs:=zg sh.regs k v } uh:=by
 simp only[zm,zcP h]
theorem zew {k:Nat} {v:Option (List C)} (h:K k=true):{ zm K sh uh with boxes:=zg (zm K sh uh).boxes k v }=zm K { sh with boxes:=zg sh.boxes k v } uh:=by
 simp only[zm,zcP h]
theorem zhp {d:Option Nat} {v:V} (h: ∀i,d=some i→T i=true):(zp T K s u).putO d v=zp T K (s.putO d v) u:=by
 cases d with
 | none=>rfl
 | some d=>simp only[St.putO,St.put,zp,zcP (h d rfl)]
def inT (T:Nat→Bool):Operand→Bool
 | .tmp d=>T d
 | _=>true
theorem zk {x:Operand} (h:inT T x=true):ze (zp T K s u) x=ze s x:=by
 cases x with
 | tmp d =>
  show(bif Nat.blt d s.nt then zal T s.tmps u.tmps d else .junk)=_;rw[z7 h]; rfl
 | _=>rfl
theorem zhg {c:C} (h: ∀k∈c.refs,K k=true):zai (zm K sh uh) c=zai sh c:=by
 cases c<;>first | rfl | (have hk:=h _ List.mem_cons_self; simp only[zai,zK hk])
theorem zgA {c:C} (h: ∀k∈c.refs,K k=true):za4 (zm K sh uh) c=za4 sh c:=by
 cases c<;>first | rfl | (have hk:=h _ List.mem_cons_self; simp only[za4,zK hk])
theorem zg2 {c:C} (h: ∀k∈c.refs,K k=true):zcg (zm K sh uh) c=zcg sh c:=by
 cases c<;>first | rfl | (have hk:=h _ List.mem_cons_self; simp only[zcg,zK hk])
theorem ziD {c:C} {i:Int} (h: ∀k∈c.refs,K k=true):zac (zm K sh uh) c i=zac sh c i:=by
 cases c<;>first | rfl | (have hk:=h _ List.mem_cons_self; simp only[zac,zK hk])
theorem zjC {c:C} {lo hi:Int} (h: ∀k∈c.refs,K k=true):zdc (zm K sh uh) c lo hi=zdc sh c lo hi:=by
 cases c<;>first | rfl | (have hk:=h _ List.mem_cons_self; simp only[zdc,zK hk])
theorem zhj {c:C} (h: ∀k∈c.refs,K k=true):zaW (zm K sh uh) c=zaW sh c:=by
 cases c<;>first | rfl | (have hk:=h _ List.mem_cons_self; simp only[zaW,zK hk,zbR hk])
theorem zjh {c:C} {n:Nat} (h: ∀k∈c.refs,K k=true):zam (zm K sh uh) n c=zam sh n c:=by
 cases c<;>first | rfl | (have hk:=h _ List.mem_cons_self; simp only[zam,zK hk,zbR hk])
theorem zkf {c:C} {t:Ty} (h: ∀k∈c.refs,K k=true):rdC (zm K sh uh) t c=rdC sh t c:=by
 cases c<;>first | rfl | (have hk:=h _ List.mem_cons_self; simp only[rdC,zK hk])
theorem zhr: ∀{ts:List Ty} {cs:List C},(∀c∈cs,∀k∈c.refs,K k=true)→zdj (zm K sh uh) ts cs=zdj sh ts cs
 | [],[],_=>rfl
 | t::ts,c::cs,h=>by
  simp only[zdj];rw[zkf (h c (by simp)),zhr (fun c hc=>h c (by simp[hc]))]
 | [],_::_,_=>rfl
 | _::_,[],_=>rfl
theorem zia {t:Ty} {cs:List C} (h: ∀c∈cs,∀k∈c.refs,K k=true):rdT (zm K sh uh) t cs=rdT sh t cs:=by
 simp only[rdT,zhr h]
def za0 {α:Type} (K:Nat→Bool) (uh:Sh) (p:α×Sh):α×Sh:=(p.1,zm K p.2 uh)
def zdT {α:Type} (T K:Nat→Bool) (u:St) (p:α×St):α×St:=(p.1,zp T K p.2 u)
theorem zkb {c:C} {a:Ann} {t:Ty} (h: ∀k∈c.refs,K k=true):mvC (zm K sh uh) a t c=(mvC sh a t c).map (za0 K uh):=by
 cases c<;>simp only[mvC]
 case int=>rfl
 case bool=>rfl
 case nil=>cases t<;>rfl
 case fz=>cases a<;>rfl
 case «at» k =>
  have hk:=h k (by simp[C.refs]);rw[zK hk];cases sh.regs k with
  | none=>rfl
  | some e =>
   cases a with
   | ow a'=>cases hb:wkB e.pk.a a'<;>simp[hb,za0,zau hk]
   | fz=>simp[za0,zau hk]
   | pr _ _=>simp[za0,zau hk]
 case vw k ver lo hi =>
  have hk:=h k (by simp[C.refs]);rw[zK hk];cases sh.regs k with
  | none=>rfl
  | some e =>
   cases hv:Nat.beq e.ver ver with
   | false=>simp[hv]
   | true =>
    cases a with
    | ow a'=>cases hb:wkB e.pk.a a'<;>simp[hv,hb,za0,zau hk]
    | fz=>simp[hv,za0,zau hk]
    | pr _ _=>simp[hv,za0,zau hk]
 all_goals rfl
theorem zfr: ∀{as:List Ann} {ts:List Ty} {cs:List C} {sh:Sh},(∀c∈cs,∀k∈c.refs,K k=true)→zaF (zm K sh uh) as ts cs=(zaF sh as ts cs).map (za0 K uh)
 | [],[],[],sh,_=>rfl
 | a::as,t::ts,c::cs,sh,h=>by
  simp only[zaF];rw[zkb (h c (by simp))];cases mvC sh a t c with
  | none=>rfl
  | some p =>
   obtain⟨d,sh1⟩:=p;simp only[Option.map_some,za0];rw[zfr (fun c hc=>h c (by simp[hc]))];cases zaF sh1 as ts cs with
   | none=>rfl
   | some q=>rfl
 | [],[],_::_,_,_=>rfl
 | [],_::_,_,_,_=>rfl
 | _::_,[],_,_,_=>rfl
 | _::_,_::_,[],_,_=>rfl
theorem zgc {t:Ty} {a:Ann} {cs:List C} (h: ∀c∈cs,∀k∈c.refs,K k=true):mvT (zm K sh uh) t a cs=(mvT sh t a cs).map (za0 K uh):=by
 simp only[mvT];rw[zfr h];cases zaF sh (a.flat t) t.leaves cs with
 | none=>rfl
 | some p =>
  obtain⟨ds,sh1⟩:=p;simp only[Option.map_some,za0];cases t.unflat ds with
  | none=>rfl
  | some q =>
   obtain⟨x,r⟩:=q;cases r<;>rfl
theorem zcE {site:Nat} {pk:Pk} (h:K site=true):zV (zp T K s u) site pk=(zV s site pk).map (zp T K · u):=by
 unfold zV;have:(zp T K s u).used site=s.used site:=z7 h;rw[this];cases s.used site with
 | true=>rfl
 | false =>
  simp only[cond_false,Option.map_some,Option.some.injEq];show({ nt:=s.nt,tmps:=zal T s.tmps u.tmps,sh:={ zm K s.sh u.sh with regs:=zg (zm K s.sh u.sh).regs site _ },used:=zg (zal K s.used u.used) site true }:St)=_;rw[zau h,zcP h];rfl
theorem zdh {site:Nat} {cs:List C} (h:K site=true):zQ (zp T K s u) site cs=(zQ s site cs).map (zp T K · u):=by
 unfold zQ;have:(zp T K s u).used site=s.used site:=z7 h;rw[this];cases s.used site with
 | true=>rfl
 | false =>
  simp only[cond_false,Option.map_some,Option.some.injEq];show({ nt:=s.nt,tmps:=zal T s.tmps u.tmps,sh:={ zm K s.sh u.sh with boxes:=zg (zm K s.sh u.sh).boxes site _ },used:=zg (zal K s.used u.used) site true }:St)=_;rw[zew h,zcP h];rfl
theorem zjV {t:Ty} {an:Ann} {c:C} (h: ∀k∈c.refs,K k=true):zaK (zm K sh uh) t an c=(zaK sh t an c).map (za0 K uh):=by
 cases c<;>simp only[zaK]
 case nil=>rfl
 case fz u l=>cases zC (an.flat t)<;>simp<;>cases zad u t l<;>rfl
 case br u l=>cases t.noSl<;>simp<;>cases zad u t l<;>rfl
 case «at» k =>
  have hk:=h k (by simp[C.refs]);rw[zK hk];cases sh.regs k with
  | none=>rfl
  | some e =>
   simp only;cases zC (an.flat t)with
   | true=>cases zC (e.pk.a.flat e.pk.t)<;>simp<;>cases zad e.pk.t t e.pk.l<;>rfl
   | false=>cases e.pk.a.beq an<;>simp<;>cases zad e.pk.t t e.pk.l<;>simp[za0,zau hk]
 case nd k ver p q =>
  rw[zK (h k (by simp[C.refs]))];cases sh.regs k with
  | none=>rfl
  | some e=>simp only; cases(Nat.beq e.ver ver&&zC (an.flat t)&&zC (q.a.flat q.t))<;>simp<;>cases zad q.t t q.l<;>rfl
 case vw k ver lo hi =>
  rw[zK (h k (by simp[C.refs]))];cases sh.regs k with
  | none=>rfl
  | some e=>simp only; cases(Nat.beq e.ver ver&&zC (an.flat t)&&zC (e.pk.a.flat e.pk.t))<;>simp<;>cases zad e.pk.t t ((e.pk.l.drop lo.toNat).take (hi-lo).toNat)<;>rfl
 all_goals rfl
theorem zfU {E:Env} {site:Nat} {t:Ty} {an:Ann} {l:List t.D} {c:C} (h: ∀k∈c.refs,K k=true) (hs:K site=true) :
  zbs E (zp T K s u) site t an l c=(zbs E s site t an l c).map (zdT T K u):=by
 unfold zbs;rw[show(zp T K s u).sh=zm K s.sh u.sh from rfl,zjV h];cases zaK s.sh t an c with
 | none=>rfl
 | some p =>
  obtain⟨l2,sh⟩:=p;simp only[Option.map_some,za0];rw[show({ zp T K s u with sh:=zm K sh u.sh }:St)=zp T K { s with sh } u from rfl,zcE hs];cases zV { s with sh } site ⟨t,an,l++l2⟩<;>rfl
theorem zhH {E:Env} {site:Nat} {t:Ty} {c d:C} (hc: ∀k∈c.refs,K k=true) (hd: ∀k∈d.refs,K k=true) (hs:K site=true) :
  zaL E (zp T K s u) site t c d=(zaL E s site t c d).map (zdT T K u):=by
 cases c<;>simp only[zaL]
 case nil=>exact zfU hd hs
 case «at» k =>
  have hk:=hc k (by simp[C.refs]);rw[show(zp T K s u).sh.regs k=s.sh.regs k from zK hk];cases s.sh.regs k with
  | none=>rfl
  | some e =>
   simp only;cases(Nat.beq e.pk.t.size t.size&&Nat.beq e.pk.t.bytes t.bytes)with
   | false=>rfl
   | true =>
    simp only[cond_true]
    rw[show({ zp T K s u with sh:={ (zp T K s u).sh with regs:=zg (zp T K s u).sh.regs k none } }:St)=zp T K { s with sh:={ s.sh with regs:=zg s.sh.regs k none } } u by
     show({ nt:=s.nt,tmps:=_,sh:={ zm K s.sh u.sh with regs:=zg (zm K s.sh u.sh).regs k none },used:=_ }:St)=_
     rw[zau hk]; rfl]
    exact zfU hd hs
 all_goals rfl
end
section
variable {T K:Nat→Bool} {s u:St} {sh uh:Sh}
theorem zeY {x:V} {cs:List C} (e:zas x=some cs): ∀c∈cs,∀k∈c.refs,k∈x.refs:=by
 cases x<;>simp only[zas]at e
 case c x=>simp at e; subst e; intro c hc k hk; simp at hc; subst hc; exact hk
 case agg l=>simp at e; subst e; intro c hc k hk; exact List.mem_flatMap.2 ⟨c,hc,hk⟩
 all_goals simp at e
theorem zgl {fs:List (Nat×Nat×Bool)}: ∀{ps:List (Nat×Operand)} {cs:List C},(∀p∈ps,inT T p.2=true)→zcp (zp T K s u) fs ps cs=zcp s fs ps cs
 | [],_,_=>rfl
 | (j,x)::ps,cs,h=>by
  simp only[zcp];rw[zk (h (j,x) (by simp))];cases fs[j]? with
  | none=>rfl
  | some q =>
   obtain⟨off,sz,ag⟩:=q;cases zas (ze s x)with
   | none=>rfl
   | some ds =>
    simp only;cases(Nat.beq ds.length sz&&Nat.ble (off+sz) cs.length)with
    | true=>exact zgl (fun p hp=>h p (List.mem_cons_of_mem _ hp))
    | false=>rfl
theorem zhi {t:Ty} {an:Ann}: ∀{ps:List (Nat×Operand)} {n:Nat} {sh:Sh},(∀p∈ps,inT T p.2=true)→(∀p∈ps,∀k∈(ze s p.2).refs,K k=true) →
  zcO (zp T K s u) t an n ps (zm K sh uh)=(zcO s t an n ps sh).map (za0 K uh)
 | [],_,_,_,_=>rfl
 | (j,x)::ps,n,sh,h,hk=>by
  simp only[zcO];rw[zk (h (j,x) (by simp))];cases Nat.beq j n with
  | false=>rfl
  | true =>
   simp only[cond_true];cases hx:zas (ze s x)with
   | none=>rfl
   | some cs =>
    simp only;rw[zgc (fun c hc k hk'=>hk (j,x) (by simp) k (zeY hx c hc k hk'))];cases mvT sh t an cs with
    | none=>rfl
    | some p =>
     obtain⟨d,sh1⟩:=p;simp only[Option.map_some,za0];rw[zhi (fun p hp=>h p (by simp[hp])) (fun p hp=>hk p (by simp[hp]))];cases zcO s t an (n+1) ps sh1 with
     | none=>rfl
     | some q=>rfl
theorem ziT {c:C} {ds:List C} (h: ∀k∈c.refs,K k=true) (hd: ∀d∈ds,∀k∈d.refs,K k=true):zX (zp T K s u) c ds=(zX s c ds).map (zp T K · u):=by
 cases c<;>simp only[zX]
 case ptr k off =>
  have hk:=h k List.mem_cons_self;rw[show(zp T K s u).sh.boxes k=s.sh.boxes k from zbR hk];cases s.sh.boxes k with
  | none=>rfl
  | some cs =>
   simp only;cases Nat.ble (off+ds.length) cs.length with
   | false=>rfl
   | true =>
    simp only[cond_true,Option.map_some,Option.some.injEq];show({ nt:=s.nt,tmps:=_,sh:={ zm K s.sh u.sh with boxes:=zg (zm K s.sh u.sh).boxes k _ },used:=_ }:St)=_;rw[zew hk]; rfl
 case eo k ver p q i off =>
  have hk:=h k List.mem_cons_self;rw[show(zp T K s u).sh=zm K s.sh u.sh from rfl,zfr hd];cases zaF s.sh (((q.a.flat q.t).drop off).take ds.length) ((q.t.leaves.drop off).take ds.length) ds with
  | none=>rfl
  | some pr =>
   obtain⟨lds,sh1⟩:=pr;simp only[Option.map_some,za0];rw[zK hk];cases sh1.regs k with
   | none=>rfl
   | some e =>
    simp only;cases Nat.beq e.ver ver with
    | false=>rfl
    | true =>
     simp only[cond_true];cases q.t.unflat (zI (q.t.flat (q.l.getD i.toNat q.t.dflt)) off lds)with
     | none=>rfl
     | some y =>
      obtain⟨x,r⟩:=y;cases r with
      | cons _ _=>rfl
      | nil =>
       simp only;cases e.pk.put p ⟨q.t,q.a,q.l.set i.toNat x⟩with
       | none=>rfl
       | some l =>
        simp only[Option.map_some,Option.some.injEq];show({ nt:=s.nt,tmps:=_,sh:={ zm K sh1 u.sh with regs:=zg (zm K sh1 u.sh).regs k _ },used:=_ }:St)=_;rw[zau hk]; rfl
 all_goals rfl
def zcS (o:Oper):Bool :=
 match o.op with
 | .move _=>true
 | .assign _=>true
 | .extract _ _=>true
 | .field _ _ _=>true
 | _=>false
structure Sees (T K:Nat→Bool) (s:St) (o:Oper) (site:Nat):Prop where
 t: ∀x∈o.op.operands.toList,inT T x=true
 k: ∀x∈(bif zcS o then[]else o.op.operands.toList),∀k∈(ze s x).refs,K k=true
 d: ∀i,o.dst=some i→T i=true
 si:K site=true
 b:zbF o=true→ ∀x∈o.op.operands.toList,∀k∈(ze s x).refs,∀cs,s.sh.boxes k=some cs→ ∀c∈cs,∀j∈c.refs,K j=true
variable {E:Env} {o:Oper} {site:Nat}
theorem zgg {d:Int} {lo:Option Operand} (h: ∀x,lo=some x→inT T x=true):zct (zp T K s u) d lo=zct s d lo:=by
 cases lo with
 | none=>rfl
 | some x=>simp only[zct]; rw[zk (h x rfl)]
theorem zfu: ∀{xs:List Operand},(∀x∈xs,inT T x=true)→xs.map (ze (zp T K s u))=xs.map (ze s)
 | [],_=>rfl
 | x::xs,h=>by
  simp only[List.map_cons];rw[zk (h x (by simp)),zfu (fun x hx=>h x (by simp[hx]))]
theorem zdw {α β:Type} {f:α→β} (b:Bool) {x:Option β} {y:Option α} (h:x=y.map f):(bif b then x else none)=(bif b then y else none).map f:=by
 cases b with
 | true=>exact h
 | false=>rfl
theorem zg1 {c:C} (h: ∀k∈c.refs,K k=true):zdK (zm K sh uh) c=zdK sh c:=by
 cases c<;>first | rfl | (have hk:=h _ List.mem_cons_self; simp only[zdK,zK hk])
theorem zg0 {c:C} {k:Nat} {lo hi:Int} (e:zdK sh c=some (k,lo,hi)) (h: ∀k∈c.refs,K k=true):K k=true:=by
 cases c<;>simp only[zdK]at e
 case vw j ver l h2 =>
  split at e
  ·rename_i en _
   cases hb:Nat.beq en.ver ver<;>rw[hb]at e<;>simp at e;obtain⟨rfl,_⟩:=e;exact h _ List.mem_cons_self
  ·simp at e
 case «at» j =>
  split at e
  ·simp at e; obtain⟨rfl,_⟩:=e; exact h _ List.mem_cons_self
  ·simp at e
 all_goals simp at e
theorem zfS {t:Ty} {k lo:Nat} {m:List t.D} (hk:K k=true):zbL (zp T K s u) t k lo m=(zbL s t k lo m).map (zp T K · u):=by
 unfold zbL;rw[show(zp T K s u).sh.regs k=s.sh.regs k from zK hk];cases s.sh.regs k with
 | none=>rfl
 | some e =>
  simp only;cases e.pk.t.scalar with
  | false=>rfl
  | true =>
   simp only[cond_true];cases zad t e.pk.t m with
   | none=>rfl
   | some m' =>
    simp only[Option.map_some,Option.some.injEq];show({ nt:=s.nt,tmps:=_,sh:={ zm K s.sh u.sh with regs:=zg (zm K s.sh u.sh).regs k _ },used:=_ }:St)=_;rw[zau hk]; rfl
theorem zjs (h:Sees T K s o site):zaI E site (zp T K s u) o=(zaI E site s o).map (zdT T K u):=by
 obtain⟨ht,hk,hd,hs,_⟩:=h
 have put: ∀{s1:St} {v:V} {ok:Bool},(some (ok,(zp T K s1 u).putO o.dst v):Option (Bool×St))=(some (ok,s1.putO o.dst v)).map (zdT T K u):=by
  intro s1 v ok; rw[zhp hd]; rfl
 unfold zaI;cases hop:o.op<;>rw[hop]at ht<;>simp only[zcS,hop,cond_false,cond_true]at hk<;>simp only[Op.operands]at ht hk<;>(try dsimp only)
 case move x=>simp only[zk (ht x (by simp))]; exact put
 case assign x=>simp only[zk (ht x (by simp))]; exact put
 case pick c x y =>
  simp only[zk (ht c (by simp)),zk (ht x (by simp)),zk (ht y (by simp))];split
  ·exact put
  ·rfl
 case nilCheck x =>
  simp only[zk (ht x (by simp))];split
  ·rename_i k off hx
   have hkk:K k=true:=hk x (by simp) k (by rw[hx]; exact List.mem_cons_self);rw[show(zp T K s u).sh.boxes k=s.sh.boxes k from zbR hkk];cases s.sh.boxes k with
   | none=>rfl
   | some _=>exact put
  ·rfl
 case box t x =>
  simp only[zk (ht x (by simp))];cases zas (ze s x)with
  | none=>rfl
  | some cs =>
   simp only;rw[zdh hs];cases zQ s site cs with
   | none=>rfl
   | some s1=>exact put
 case alloc t =>
  cases E.TT t with
  | none=>rfl
  | some i =>
   simp only;rw[zdh hs];cases zQ s site (zaG i.ty)with
   | none=>rfl
   | some s1=>exact put
 case load t x =>
  simp only[zfN];cases E.TT t with
  | none=>rfl
  | some i =>
   simp only[zk (ht x (by simp))];split
   ·rename_i c hx
    rw[show(zp T K s u).sh=zm K s.sh u.sh from rfl,zjh (fun k hk'=>hk x (by simp) k (by rw[hx]; exact hk'))];cases zam s.sh i.ty.size c with
    | none=>rfl
    | some cs=>simp only; cases Nat.beq cs.length i.ty.size<;>first | rfl | exact put
   ·rfl
 case store t x y =>
  simp only[zeJ];cases E.TT t with
  | none=>rfl
  | some i =>
   simp only[zk (ht x (by simp)),zk (ht y (by simp))];split
   ·rename_i c ds hx hy
    cases Nat.beq ds.length i.ty.size with
    | false=>rfl
    | true =>
     simp only[cond_true];rw[ziT (fun k hk'=>hk x (by simp) k (by rw[hx]; exact hk')) (fun d hd' k hk'=>hk y (by simp) k (zeY hy d hd' k hk'))];cases zX s c ds with
     | none=>rfl
     | some s1=>exact put
   ·rfl
 case fieldAddr t x f =>
  simp only[zeo];cases E.TT t with
  | none=>rfl
  | some i =>
   simp only[zk (ht x (by simp))];split
   ·split
    ·split
     ·rename_i c hx
      rw[show(zp T K s u).sh=zm K s.sh u.sh from rfl,zhj (fun k hk'=>hk x (by simp) k (by rw[hx]; exact hk'))];cases zaW s.sh c with
      | false=>rfl
      | true =>
       simp only[cond_true];split
       ·exact put
       ·rfl
     ·rfl
    ·rfl
   ·rfl
 case indexAddr t x y =>
  simp only[zet];cases E.TT t with
  | none=>rfl
  | some i =>
   simp only[zk (ht x (by simp)),zk (ht y (by simp))];split
   ·split
    ·rename_i c k n hx hy
     rw[show(zp T K s u).sh=zm K s.sh u.sh from rfl,ziD (fun k hk'=>hk x (by simp) k (by rw[hx]; exact hk'))];cases zac s.sh c n with
     | none=>rfl
     | some q =>
      obtain⟨ok,sz,c'⟩:=q;exact zdw _ put
    ·rfl
   ·rfl
 case build t ps =>
  simp only[zei];cases E.TT t with
  | none=>rfl
  | some i =>
   simp only;split
   ·rw[zgl (fun p hp=>ht p.2 (by simp; exact⟨p.1,by simpa using hp⟩))]
    cases zcp s i.fs ps.toList (zaG i.ty)with
    | none=>rfl
    | some cs=>exact put
   ·rfl
 case buildSlice t n ps =>
  have h1: ∀p∈ps.toList,inT T p.2=true:=fun p hp=>ht p.2 (by simp; exact⟨p.1,by simpa using hp⟩)
  have h2: ∀p∈ps.toList,∀k∈(ze s p.2).refs,K k=true:=fun p hp=>hk p.2 (by simp; exact⟨p.1,by simpa using hp⟩)
  simp only[zbD];cases E.TT t with
  | none=>rfl
  | some i =>
   simp only;split
   ·rename_i t' _
    cases(Nat.blt 0 t'.size&&Nat.beq ps.toList.length n&&Nat.ble (n*t'.size) 16777216&&Nat.ble (n*t'.bytes) 140737488355328)with
    | false=>rfl
    | true =>
     simp only[cond_true];rw[show(zp T K s u).sh=zm K s.sh u.sh from rfl,zhi h1 h2];cases zcO s t' ((E.an site).getD (zbh t')) 0 ps.toList s.sh with
     | none=>rfl
     | some q =>
      obtain⟨l,sh1⟩:=q;simp only[Option.map_some,za0];rw[show({ zp T K s u with sh:=zm K sh1 u.sh }:St)=zp T K { s with sh:=sh1 } u from rfl,zcE hs];cases zV { s with sh:=sh1 } site ⟨t',(E.an site).getD (zbh t'),l⟩with
      | none=>rfl
      | some s1=>exact put
   ·rfl
 case makeSlice t x y =>
  simp only[zfO];cases E.TT t with
  | none=>rfl
  | some i =>
   simp only;split
   ·rename_i t' _
    cases(Nat.blt 0 t'.size&&Nat.blt 0 t'.bytes&&zcW x y)with
    | false=>rfl
    | true =>
     simp only[cond_true,zk (ht x (by simp))];split
     ·rename_i k n _
      rw[zcE hs];cases zV s site ⟨t',(E.an site).getD (zbh t'),List.replicate n.toNat t'.dflt⟩with
      | none=>rfl
      | some s1=>exact put
     ·rfl
   ·rfl
 case slice t x lo hi mx =>
  cases mx with
  | some m=>rfl
  | none =>
   dsimp only;simp only[zgV];cases E.TT t with
   | none=>rfl
   | some i =>
    simp only[zk (ht x (by simp)),zgg (lo:=lo) (fun y hy=>ht y (by subst hy; simp)),zgg (lo:=hi) (fun y hy=>ht y (by subst hy; simp))];split
    ·split
     ·rename_i c hx
      have hr: ∀k∈c.refs,K k=true:=fun k hk'=>hk x (by simp) k (by rw[hx]; exact hk')
      rw[show(zp T K s u).sh=zm K s.sh u.sh from rfl,zhg hr,zg2 hr];cases zai s.sh c with
      | none=>rfl
      | some n =>
       simp only;split
       ·rename_i l h _ _
        refine zdw _ ?_;rw[zjC hr];cases zdc s.sh c l h with
        | none=>rfl
        | some q=>exact put
       ·rfl
     ·rfl
    ·rfl
 case binOp op t x y yt =>
  simp only[zgP,zk (ht x (by simp)),zk (ht y (by simp))];split
  ·split
   ·exact put
   ·rfl
  ·split
   ·split
    ·exact put
    ·exact put
    ·rfl
   ·rfl
  ·split
   ·rename_i i _
    cases i.eqs with
    | false=>rfl
    | true =>
     simp only[cond_true];split
     ·exact put
     ·exact put
     ·rfl
   ·rfl
  ·rfl
 case field t x f =>
  simp only[zdq,zk (ht x (by simp))];split
  ·split
   ·split
    ·split
     ·rename_i cs _
      rename_i fo n ag _ _ _;cases(Nat.ble (fo+n) cs.length&&(ag||Nat.beq n 1))
      ·rfl
      ·exact put
     ·rfl
    ·rfl
   ·rfl
  ·rfl
 case unOp op t x =>
  simp only[unT,zk (ht x (by simp))];split
  ·exact put
  ·exact put
  ·rfl
 case convert t v x =>
  simp only[zfE,zk (ht x (by simp))];split
  ·split
   ·exact put
   ·rfl
  ·rfl
 case extract x j =>
  simp only[zk (ht x (by simp))];split
  ·split
   ·exact put
   ·rfl
  ·rfl
 case makeFunc fn first cap =>
  cases fn with
  | func f =>
   dsimp only;rw[zfu (fun x hx=>ht x (by simp; exact .inr (by simpa using hx)))];split
   ·exact put
   ·rfl
  | _=>rfl
 case call c =>
  cases hcal:c.callee with
  | value f=>rfl
  | invoke r m=>rfl
  | builtin b =>
   have ha: ∀x∈c.args.toList,inT T x=true:=fun x hx=>ht x (by simp[Call.operands,hcal]; simpa using hx)
   have hka: ∀x∈c.args.toList,∀k∈(ze s x).refs,K k=true:=fun x hx=>hk x (by simp[Call.operands,hcal]; simpa using hx)
   dsimp only;generalize c.args.toList=args at ha hka;generalize c.argTypes.toList=ts;unfold zce;split
   ·rename_i x t
    simp only[zhh];cases E.TT t with
    | none=>rfl
    | some i =>
     simp only[zk (ha x (by simp))];split
     ·split
      ·rename_i c hx
       have hr: ∀k∈c.refs,K k=true:=fun k hk'=>hka x (by simp) k (by rw[hx]; exact hk')
       rw[show(zp T K s u).sh=zm K s.sh u.sh from rfl,zhg hr,zgA hr];cases zai s.sh c with
       | none=>rfl
       | some n =>
        simp only;exact zdw _ put
      ·rfl
     ·rfl
   ·rename_i x y t t2
    cases Nat.beq t t2 with
    | false=>rfl
    | true =>
     simp only[cond_true,zf6];cases E.TT t with
     | none=>rfl
     | some i =>
      simp only[zk (ha x (by simp)),zk (ha y (by simp))];split
      ·rename_i t' _
       cases(Nat.beq o.type t&&Nat.blt 0 t'.size&&Nat.blt 0 t'.bytes)with
       | false=>rfl
       | true =>
        simp only[cond_true];split
        ·rename_i cx cy hx hy
         rw[zhH (fun k hk'=>hka x (by simp) k (by rw[hx]; exact hk')) (fun k hk'=>hka y (by simp) k (by rw[hy]; exact hk')) hs];cases zaL E s site t' cx cy with
         | none=>rfl
         | some q=>exact put
        ·rfl
      ·rfl
   ·rename_i x y
    simp only[zbW,zk (ha x (by simp)),zk (ha y (by simp))];split
    ·split
     ·exact put
     ·rfl
    ·rfl
   ·rename_i x y
    simp only[zbW,zk (ha x (by simp)),zk (ha y (by simp))];split
    ·split
     ·exact put
     ·rfl
    ·rfl
   ·rename_i x y t t2
    simp only[zfF];cases E.TT t with
    | none=>rfl
    | some i =>
     simp only[zk (ha x (by simp)),zk (ha y (by simp))];split
     ·split
      ·rename_i cx cy hx hy
       rw[show(zp T K s u).sh=zm K s.sh u.sh from rfl,zg1 (fun k hk'=>hka x (by simp) k (by rw[hx]; exact hk'))];split
       ·rename_i k lo hi l hd hl
        rw[zfS (zg0 hd (fun k hk'=>hka x (by simp) k (by rw[hx]; exact hk')))];cases zbL s _ k lo.toNat (l.take (hi-lo).toNat)with
        | none=>rfl
        | some s1=>exact put
       ·rfl
      ·rfl
     ·rfl
   ·rename_i x t
    simp only[zek];cases E.TT t with
    | none=>rfl
    | some i =>
     simp only[zk (ha x (by simp))];split
     ·split
      ·rename_i cx hx
       rw[show(zp T K s u).sh=zm K s.sh u.sh from rfl,zg1 (fun k hk'=>hka x (by simp) k (by rw[hx]; exact hk'))];split
       ·rename_i k lo hi hd
        rw[zfS (zg0 hd (fun k hk'=>hka x (by simp) k (by rw[hx]; exact hk')))];cases zbL s _ k lo.toNat (List.replicate (hi-lo).toNat _)with
        | none=>rfl
        | some s1=>exact put
       ·rfl
      ·rfl
     ·rfl
   ·rfl
 all_goals rfl
end
end Go.Tf
