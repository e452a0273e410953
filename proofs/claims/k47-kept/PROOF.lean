import PyProof.Rows.All
import Wide.All
import OpenK.AllK
import Wide.FinOn
import HandS.ForMost
import HandS.Property
import HandS.IsInst
import HandS.More
import HandS.Conv
import HandS.Style
import HandS.NoneIn
import HandS.TupAny
import HandS.Star
import HandS.IterNext
import HandS.Evl
import KE.KOwnIter
import PySem.Challenge.RW_pupilpairs_k47_whole_least_that_is_kept
set_option Elab.async false
set_option linter.all false
set_option maxRecDepth 100000
/-! K47Base: the text by places; a def as one fact for its callers; three rules of my own: an item of a list for op=, iter(tuple), a for over an own object whose __iter__ hands back a tuple's iterator. -/
namespace K47
open PySem PySem.Spec PyProof.Rows L2

/-! ### the text by places -/
def top (i : Nat) : Stmt := PySem.Challenge.pw_pupilpairs_k47_whole_least_that_is_kept.main.body.getD i (.Pass ⟨0, 0, 0, 0⟩)

/-! ### a def, as its callers see it -/
section
variable (P : Program) (w : World) (K : PySem.W.Frag) (mg : Str → Option Value) (base : Heap)
/-- the global x is a def that keeps the promise sp, within level k -/
def Def (x : Str) (k : Nat) (sp : Sp) : Prop := ∃ (f : Addr) (fd : FuncData) (ps : List Str), mg x = some (.ref f) ∧ PySem.W.keepIn K (.ref f) = true ∧ Binds K fd ps [] ∧ FnOk P w K mg base CX0 k f fd ps sp
/-- the class at C has the method m -/
def DefM (C : Addr) (m : Str) (k : Nat) (sp : Sp) : Prop := ∃ (f : Addr) (fd : FuncData) (ps : List Str), Meth K C m f ∧ Binds K fd ps [] ∧ FnOk P w K mg base CX0 k f fd ps sp
/-- .. the property m -/
def DefP (C : Addr) (m : Str) (k : Nat) (sp : Sp) : Prop := ∃ (p f : Addr) (fd : FuncData) (ps : List Str), PropOf K C m p f ∧ Binds K fd ps [] ∧ FnOk P w K mg base CX0 k f fd ps sp
/-- .. is made by x(..) -/
def DefC (C : Addr) (x : Str) (k : Nat) (sp : Sp) : Prop := ∃ (f : Addr) (fd : FuncData) (ps : List Str), mg x = some (.ref C) ∧ Mk K C f ∧ Binds K fd ps [] ∧ FnOk P w K mg base CX0 k f fd ps sp
/-- a def with a star parameter alone -/
def DefS (x : Str) (k : Nat) (sp : Sp) : Prop := ∃ (f : Addr), mg x = some (.ref f) ∧ PySem.W.keepIn K (.ref f) = true ∧ FnR P w K mg base CX0 k f sp
end
/-- where a def of the text stands: g its global name, x its own -/
def FunAt (K : PySem.W.Frag) (mg : Str → Option Value) (g x : Str) (st : Stmt) (ps : List Str) : Prop := ∃ (f : Addr) (fd : FuncData), Fun K x x st f fd ∧ mg g = some (.ref f) ∧ Binds K fd ps []
def FunM (K : PySem.W.Frag) (C : Addr) (m q : Str) (st : Stmt) (ps : List Str) : Prop := ∃ (f : Addr) (fd : FuncData), Fun K m q st f fd ∧ Meth K C m f ∧ Binds K fd ps []
def FunP (K : PySem.W.Frag) (C : Addr) (m q : Str) (st : Stmt) (ps : List Str) : Prop := ∃ (p f : Addr) (fd : FuncData), Fun K m q st f fd ∧ PropOf K C m p f ∧ Binds K fd ps []

section
variable {P : Program} {w : World} {K : PySem.W.Frag} {mg : Str → Option Value} {base : Heap} {C : Addr}
theorem def_of {g x : Str} {st : Stmt} {N ps : List Str} {k : Nat} {sp : Sp} (F : FunAt K mg g x st ps) (S : FnScope N ps (defScope st)) (len : ∀ vs H Q E, sp vs H Q E → vs.length = ps.length)
    (hbody : ∀ (f : Addr) (cdv : Value) (A : Around) (outer : List Env) (s : Shared) (H : Hp) (vs : List V) (Q : VK) (E : XK), Room k (A.deeper (envOfC x (defScope st) s.heap.objs.size f cdv)) → sp vs H Q E →
      ∃ t, PSs (cxOf CX0 P w K mg base N x (defScope st) f cdv A outer s H E).nox (defBody st) t ∧ t { nx := fun _ H' => Q .non H', rt := Q } (start N vs) H) : Def P w K mg base g (k + 1) sp := by
  obtain ⟨f, fd, F, hm, hb⟩ := F
  exact ⟨f, fd, ps, hm, F.kp, hb, F.ok S len (hbody f)⟩
theorem defM_of {m q : Str} {st : Stmt} {N ps : List Str} {k : Nat} {sp : Sp} (F : FunM K C m q st ps) (S : FnScope N ps (defScope st)) (len : ∀ vs H Q E, sp vs H Q E → vs.length = ps.length)
    (hbody : ∀ (f : Addr) (cdv : Value) (A : Around) (outer : List Env) (s : Shared) (H : Hp) (vs : List V) (Q : VK) (E : XK), Room k (A.deeper (envOfC q (defScope st) s.heap.objs.size f cdv)) → sp vs H Q E →
      ∃ t, PSs (cxOf CX0 P w K mg base N q (defScope st) f cdv A outer s H E).nox (defBody st) t ∧ t { nx := fun _ H' => Q .non H', rt := Q } (start N vs) H) : DefM P w K mg base C m (k + 1) sp := by
  obtain ⟨f, fd, F, hm, hb⟩ := F
  exact ⟨f, fd, ps, hm, hb, F.ok S len (hbody f)⟩
theorem defP_of {m q : Str} {st : Stmt} {N ps : List Str} {k : Nat} {sp : Sp} (F : FunP K C m q st ps) (S : FnScope N ps (defScope st)) (len : ∀ vs H Q E, sp vs H Q E → vs.length = ps.length)
    (hbody : ∀ (f : Addr) (cdv : Value) (A : Around) (outer : List Env) (s : Shared) (H : Hp) (vs : List V) (Q : VK) (E : XK), Room k (A.deeper (envOfC q (defScope st) s.heap.objs.size f cdv)) → sp vs H Q E →
      ∃ t, PSs (cxOf CX0 P w K mg base N q (defScope st) f cdv A outer s H E).nox (defBody st) t ∧ t { nx := fun _ H' => Q .non H', rt := Q } (start N vs) H) : DefP P w K mg base C m (k + 1) sp := by
  obtain ⟨p, f, fd, F, hm, hb⟩ := F
  exact ⟨p, f, fd, ps, hm, hb, F.ok S len (hbody f)⟩
end

section
variable {X : Cx} {k : Nat} {C : Addr} {sp : Sp} {x m : Str} {p pos apos : Pos} {e o : Expr} {es : List Expr} {ta : TE} {t : TA}
/-- f(e, ..) -/
def tCl (sp : Sp) (t : TA) : TE := fun σ H Q => t σ H fun vs H1 => sp vs H1 Q E0
theorem pe_callD (D : Def X.prog X.w X.K X.mg X.base x k sp) (hr : Room k X.A) (hg : Gl X x) (ha : PA X (e :: es) t) (hdb : (x == ("__debug__" : Str)) = false := by decide)
    (he : starEach (e :: es) X.env = (false, eval e X.env) :: starEach es X.env := by rfl) (hpl : (backTo pos (starEach es X.env)).any (·.1) = false := by rfl) : PE X (.Call (.Name x p) (e :: es) [] pos) (tCl sp t) := by
  obtain ⟨f, fd, ps, hm, hk, hb, F⟩ := D
  refine ⟨fun pins s σ H Q I h => ?_⟩
  refine (pe_call F hr hg hm hk hb .nil pass0 ha hdb he hpl).run pins s σ H Q I ?_
  show t σ H fun vs H1 => sp (vs ++ []) H1 Q E0
  have e : (fun (vs : List V) H1 => sp (vs ++ []) H1 Q E0) = fun vs H1 => sp vs H1 Q E0 := by
    funext vs H1
    rw [List.append_nil]
  rw [e]
  exact h
/-- x(e, ..), x a def with a star parameter -/
theorem pe_callDS (D : DefS X.prog X.w X.K X.mg X.base x k sp) (hr : Room k X.A) (hg : Gl X x) (ha : PA X (e :: es) t) (hdb : (x == ("__debug__" : Str)) = false := by decide)
    (he : starEach (e :: es) X.env = (false, eval e X.env) :: starEach es X.env := by rfl) (hpl : (backTo pos (starEach es X.env)).any (·.1) = false := by rfl) : PE X (.Call (.Name x p) (e :: es) [] pos) (tCl sp t) := by
  obtain ⟨f, hm, hk, F⟩ := D
  refine ⟨fun pins s σ H Q I h => ?_⟩
  refine wpAny_Call_Name_kw (ld_glob I hg hm ?_ hdb)
  refine PySem.W.callWith_K (h₀ := X.base) I.ok.mod.kin hk (thn (ha.run pos pins s σ H _ I h) fun us s1 ⟨vs, H1, I1, r, q⟩ => ⟨I1.kIn, ?_⟩) he hpl
  exact wpAny_call (codeAny_mono (run_fnR F hr (E := E0) pass0 I1 r q) fun r s' h => h)
/-- o.m() -/
def tMt (C : Addr) (m : Str) (sp : Sp) (ta : TE) : TE := fun σ H Q => ta σ H fun x H1 => ∃ a dx fs, x = .ref a ∧ H1 a = some (.ins C dx fs) ∧ fs.lookup m = none ∧ sp [x] H1 Q E0
theorem pe_methD {pl : Sem Bool} (he : PE X o ta) (c : Cls X.K C) (D : DefM X.prog X.w X.K X.mg X.base C m k sp) (hr : Room k X.A)
    (ht : eval (.Call (.Attribute o m apos) [] [] pos) X.env = (do
      let ov ← eval o X.env
      standAt apos.atName
      let (f, first) ← holding [ov] (getMethod ov m pl)
      callWith pos f first (backTo pos (starEach [] X.env)) (backToKw pos (keywordEach [] X.env))) := by rfl) : PE X (.Call (.Attribute o m apos) [] [] pos) (tMt C m sp ta) := by
  obtain ⟨f, fd, ps, hm, hb, F⟩ := D
  exact ⟨fun pins s σ H Q I h => (pe_meth0 (dvs := []) (E := E0) he c hm F hr hb .nil pass0 ht).run pins s σ H Q I h⟩
/-- o.m, a property -/
theorem pe_propD (he : PE X e ta) (c : Cls X.K C) (D : DefP X.prog X.w X.K X.mg X.base C m k sp) (hr : Room (k + 1) X.A) (hab : attributeBase e m X.env (eval e X.env) = eval e X.env := by rfl) :
    PE X (.Attribute e m pos) (tProp C sp [] E0 ta) := by
  obtain ⟨q, f, fd, ps, hp, hb, F⟩ := D
  exact ⟨fun pins s σ H Q I h => (pe_prop he c hp F hr hb .nil pass0 hab).run pins s σ H Q I h⟩
/-- x(e, ..), x an own class -/
theorem pe_makeD (D : DefC X.prog X.w X.K X.mg X.base C x k sp) (hr : Room (k + 1) X.A) (hg : Gl X x) (ha : PA X (e :: es) t) (hdb : (x == ("__debug__" : Str)) = false := by decide)
    (he : starEach (e :: es) X.env = (false, eval e X.env) :: starEach es X.env := by rfl) (hpl : (backTo pos (starEach es X.env)).any (·.1) = false := by rfl) : PE X (.Call (.Name x p) (e :: es) [] pos) (tMake C sp [] E0 t) := by
  obtain ⟨f, fd, ps, hm, M, hb, F⟩ := D
  exact ⟨fun pins s σ H Q I h => (pe_make M F hr hg hm hb .nil pass0 ha hdb he hpl).run pins s σ H Q I h⟩
end

/-! ### an item of a list, for op= -/
section
variable {X : Cx}
theorem get_list : PGet X (fun x y H Q => ∃ p xs i v, x = .ref p ∧ y = .int i ∧ SqL X.K H p xs ∧ 0 ≤ i ∧ xs[i.toNat]? = some v ∧ Q v H) := by
  intro pins s σ H o i ov iv Q I r1 r2 h
  obtain ⟨p, xs, j, v, rfl, rfl, hq, h0, hv, q⟩ := h
  cases r1
  obtain ⟨t, rfl⟩ := r2
  obtain ⟨its, r, pl, hz⟩ := I.list hq
  obtain ⟨u, hu, ru⟩ := r.get hv
  have hl := r.length
  have hn := line63
  have hlt := (List.getElem?_eq_some_iff.mp hv).1
  exact wpAny_getItem_list pl.isList h0 (by omega) (by simpa using hu) ⟨v, H, I, ru, q⟩
end

/-! ### iter(t), t a tuple: the iterator as a tracked thing -/
/-- at it an iterator over the tuple at a, ahead of its first item -/
def TitO (a it : Addr) : HO := .ext fun h => h.IsTupleIter it a 0
section
variable {X : Cx} {pins : List (Addr × Obj)} {σ : L2.St} {H : Hp} {s : Shared}
theorem titO_ok {P : Program} {w : World} {H : Hp} {h : Heap} {a it : Addr} (e : h.IsTupleIter it a 0) : ObjOk P w H h it (TitO a it) := by
  refine ⟨e, ?_, fun h1 h2 q k => q.at fun o e => k o e⟩
  obtain ⟨o, e, _⟩ := e
  exact ⟨o, e⟩
theorem iter_tuple {prog : Program} {w : World} {A : Around} {E : Value → Shared → Prop} {s : Shared} {l : Addr} {items : Array Value} {Q : Value → Shared → Prop} (hl : s.heap.IsTuple l items)
    (h : Q (.ref s.heap.objs.size) { s with heap := s.heap.push { cls := .type "tuple_iterator", data := .fields #[.ref l, .int 0 0] } }) : wpAny (model prog w) A (call (.builtin "iter") [.ref l]) Q E s := by
  refine Calls.call_function_entry (by decide +kernel) (by decide +kernel) PySem.W.kdk_entry_iter (PySem.W.kdk_args_iter _) ?_
  unfold Builtin.«iter»
  refine wpAny_bind (m := someArgs "iter" 1 2 _) (wpAny_of_eq (a := [Value.ref l]) (by first | rfl | kernel_rfl!) ?_)
  show wpAny _ _ (pyIter (.ref l) >>= _) _ _ _
  refine wpAny_bind (wpAny_pyIter_tuple hl ?_)
  exact wpAny_pure ⟨_, rfl, h⟩
/-! ### for x in o, o an instance whose __iter__ hands back a tuple's iterator -/
/-- a tracked thing that leans on itself alone is forgotten -/
theorem untrack {p : Addr} {φ : Heap → Prop} (I : Inv X pins σ (upd H p (.ext φ)) s) (hn : H p = none) : Inv X pins σ H s := by
  have ne : ∀ b, upd H p (.ext φ) b = none → H b = none := fun b e => by
    by_cases hb : b = p
    · rw [hb]
      exact hn
    · rw [upd_ne hb] at e
      exact e
  have nt : ∀ b o, upd H p (.ext φ) b = some o → (∀ ψ, o ≠ .ext ψ) → H b = some o := fun b o e d => by
    by_cases hb : b = p
    · rw [hb, upd_same] at e
      exact absurd (Option.some.inj e).symm (d φ)
    · rw [upd_ne hb] at e
      exact e
  refine ⟨I.ok, I.os, I.bare, ⟨I.base.keep, I.base.slot, fun b o e n hx => ne b (I.base.free b o e n hx), I.base.there, fun b xs e => nt b _ (I.base.tups b xs e) (fun _ z => nomatch z), fun b o u e => nt b _ (I.base.frzs b o u e) (fun _ z => nomatch z), fun b ps e => ?_⟩,
    I.loc, I.cell, ne _ I.free, fun x c e => ne _ (I.freeC x c e), fun q hq => ?_, fun a o e => ?_, I.len⟩
  · obtain ⟨more, q⟩ := I.base.tbls b ps e
    exact ⟨more, nt b _ q (fun _ z => nomatch z)⟩
  · obtain ⟨e, n, r⟩ := I.pin q hq
    exact ⟨e, ne _ n, r⟩
  · have ha : a ≠ p := fun z => by
      rw [z, hn] at e
      cases e
    have x := I.hok a o (by rw [upd_ne ha]; exact e)
    exact x.stay (fun _ _ _ q => q) (fun b q => nt b _ q (fun _ z => nomatch z)) fun b xs q => nt b _ q (fun _ z => nomatch z)

end

/-- one call of a def, at one state (fn_of says it of all states; here the new addresses are told against this very state) -/
theorem run_at {P : Program} {w : World} {K : PySem.W.Frag} {mg : Str → Option Value} {base : Heap} {k : Nat} {g : Addr} {nm q : Str} {st : Stmt} {fd : FuncData} {N ps : List Str} (F : Fun K nm q st g fd) (S : FnScope N ps (defScope st))
    {A : Around} {outer : List Env} {s : Shared} {H : Hp} {vals : List Value} {vs : List V} {Q : VK} {E : XK} (room : Room (k + 1) A) (z0 : Env0 P w K mg base A outer s H) (hb : Binds K fd ps [])
    (rv : Vals vs vals) (hlen : vs.length = ps.length)
    (body : ∀ cdv : Value, Room k (A.deeper (envOfC q (defScope st) s.heap.objs.size g cdv)) →
      ∃ t, PSs (cxOf CX0 P w K mg base N q (defScope st) g cdv A outer s H E) (defBody st) t ∧ t { nx := fun _ H' => Q .non H', rt := Q } (start N vs) H) :
    codeAny (model P w) A (.call (.ref g) ⟨vals, []⟩) (CR CX0 outer P w H s Q E) s := by
  obtain ⟨oc, od, kV, doc, pm, an, cd, ct, osl, rfl, lk, hcd⟩ := F.ex
  have inS : K.In s.heap := z0.mod.kin.keeps fun b u hu => (z0.bs b u hu).1
  have noLim : s.heap.NoLimit := z0.mod.nolimit.keeps fun b u hu => (z0.bs b u hu).1
  have bnd := hb s vals inS (by rw [List.append_nil, ← rv.length]; exact hlen)
  rw [List.append_nil] at bnd
  have kinds : ∀ y ∈ ps.zip vals, (defScope st).names.lookup y.1 = some .local ∨
      ((defScope st).names.lookup y.1 = some .cell ∧ ((cellsFrom (s.heap.objs.size + 1) (defScope st).names []).lookup y.1).isSome = true) := by
    intro y hy
    cases S.par y.1 (List.of_mem_zip (a := y.1) (b := y.2) hy).1 with
    | inl l => exact Or.inl l
    | inr c => exact Or.inr ⟨c, PySem.W.cellsFrom_some _ _ _ (Or.inl c)⟩
  obtain ⟨t, pt, ht⟩ := body cd (room.deeper _)
  refine codeAny_call_function room.depth (inS _ _ lk) rfl S.co S.gen rfl
    (PySem.W.codeRec_of inS hcd) (bnd _ _ _ _ ?_)
  refine wpAny_newFunctionEnv_cells S.kind kinds fun env henv s1 entry => ?_
  cases henv
  refine ⟨noLim.keeps entry.toInCall.keep, codeAny_func ?_⟩
  have inv := inv_start (CX := CX0) (E := E) S room.hd z0 hlen rv entry
  refine wpAny_mono (pt.run [] s1 _ _ _ inv ht) ?_ fun _ _ he => he
  intro fl s' hs
  cases fl with
  | ret u =>
    obtain ⟨v, _, H', J, ru, hq⟩ := hs
    exact ⟨v, H', J.os, J.bare, J.base, J.hok, ru, hq⟩
  | next =>
    obtain ⟨_, H', J, hq⟩ := hs
    exact ⟨V.non, H', J.os, J.bare, J.base, J.hok, rfl, hq⟩
  | brk => exact False.elim (hs.elim fun _ h => h.elim fun _ h => h.2)
  | cont => exact False.elim (hs.elim fun _ h => h.elim fun _ h => h.2)

section
variable {X : Cx} {pins : List (Addr × Obj)} {σ : L2.St} {H : Hp} {s : Shared}
/-- the tuple's iterator, told younger than the body's entry -/
def rIterN (K : PySem.W.Frag) (n : Nat) : List V → Hp → VK → Prop := fun xs H Q => ∃ (a : Addr) (zs : List V), xs = [.ref a] ∧ SqT K H a zs ∧ ∀ it, n ≤ it → H it = none → Q (.ref it) (upd H it (TitO a it))
theorem call_iterN : CallR X (.builtin "iter") (rIterN X.K X.s_0.heap.objs.size) := by
  intro pins s σ H xs us Q I r h
  obtain ⟨a, zs, rfl, hq, q⟩ := h
  obtain rfl := Vals.ref1 r
  obtain ⟨its, rv, pl, hz⟩ := I.tuple hq
  refine iter_tuple (show s.heap.IsTuple a its.toArray from pl) ?_
  exact ⟨.ref s.heap.objs.size, _, I.laid (t' := s.toks) (fun b u e => Heap.get?_push_of_some _ e) (Nat.le_refl _) (titO_ok ⟨_, Heap.get?_push_size _ rfl, rfl, rfl⟩), rfl, q _ I.sz (I.hok.fresh (Nat.le_refl _))⟩

/-- what a class's __iter__ does: an instance whose attribute fld is the tuple t gives a new iterator over t, younger than the state of the call -/
def DefI (P : Program) (w : World) (K : PySem.W.Frag) (mg : Str → Option Value) (base : Heap) (C : Addr) (fld : Str) (k : Nat) : Prop :=
  ∃ f : Addr, Meth K C "__iter__" f ∧ ∀ (A : Around) (outer : List Env) (s : Shared) (H : Hp) (a dx t : Addr) (fs : List (Str × V)) (zs : List V), Room k A → Env0 P w K mg base A outer s H →
    H a = some (.ins C dx fs) → fs.lookup fld = some (.ref t) → SqT K H t zs →
    codeAny (model P w) A (.call (.ref f) ⟨[.ref a], []⟩) (CR CX0 outer P w H s (fun v H' => ∃ it, s.heap.objs.size ≤ it ∧ H it = none ∧ v = .ref it ∧ H' = upd H it (TitO t it)) E0) s
/-- def __iter__(self): return iter(self.fld) -/
theorem defI_of {P : Program} {w : World} {K : PySem.W.Frag} {mg : Str → Option Value} {base : Heap} {C : Addr} {q fld : Str} {st : Stmt} {N : List Str} {p1 p2 p3 p4 p5 : Pos} (F : FunM K C "__iter__" q st ["self"]) (S : FnScope N ["self"] (defScope st))
    (hN : N = [("self" : Str)]) (hbd : defBody st = [.Return (some (.Call (.Name "iter" p1) [.Attribute (.Name "self" p2) fld p3] [] p4)) p5]) (hgl : (defScope st).names.lookup ("iter" : Str) = some NameKind.globalImplicit) (hi : mg "iter" = none) (c : Cls K C) (n : NoAttr K C fld) :
    DefI P w K mg base C fld 1 := by
  obtain ⟨f, fd, F, hm, hb⟩ := F
  refine ⟨f, hm, fun A outer s H a dx t fs zs hr e0 ha hl hz => ?_⟩
  subst hN
  refine run_at (k := 0) (vs := [.ref a]) F S hr e0 hb (.cons rfl .nil) rfl fun cdv hr0 => ?_
  rw [hbd]
  refine ⟨_, pss_one (ps_ret (pe_callB call_iterN hgl hi (by decide +kernel) (pa_cons (pe_fld (pe_var (i := 0) rfl ((S.par "self" (List.Mem.head _)).elim (fun z => .inl z) (fun z => .inr (.inl z)))) rfl) pa_nil))), ?_⟩
  exact ⟨.ref a, rfl, a, C, dx, fs, _, rfl, ha, c, n, hl, t, zs, rfl, hz, fun it h0 h1 => ⟨it, h0, h1, rfl, rfl⟩⟩

/-- e an instance of C whose attribute fld is the tuple at t -/
def iOwn (K : PySem.W.Frag) (C : Addr) (fld : Str) (tl : TE) : TI := fun σ H R => tl σ H fun x H1 => ∃ a dx fs t zs, x = .ref a ∧ H1 a = some (.ins C dx fs) ∧ fs.lookup fld = some (.ref t) ∧ SqT K H1 t zs ∧ R (Itt K t) H1
theorem pi_own {C : Addr} {k : Nat} {fld : Str} {tg l : Expr} {tl : TE} (D : DefI X.prog X.w X.K X.mg X.base C fld k) (hr : Room k X.A) (hl : PE X l tl) : PI X tg l (iOwn X.K C fld tl) := by
  obtain ⟨f, hm, F⟩ := D
  refine ⟨fun pins s σ H R I h => ?_⟩
  refine thn (hl.run pins s σ H _ I h) fun v s1 ⟨x, H1, I1, r1, q1⟩ => ?_
  obtain ⟨a, dx, fs, t, zs, rfl, ha, hfl, hz, hR⟩ := q1
  obtain rfl : v = Value.ref a := r1
  obtain ⟨mA, J, _⟩ := ins_get I1.hok ha
  obtain ⟨od, J, _⟩ := J.look
  obtain ⟨m0, hF⟩ := I1.fr
  refine PySem.W.owit_iter hF I1.ok.mod.kin J hm.at_ hm.fn ?_
  refine wpAny_call (codeAny_mono (F X.A X.stack s1 H1 a dx t fs zs hr I1.env0 ha hfl hz) fun r s' hq => ?_)
  cases r with
  | error e => exact False.elim hq
  | ok fl =>
    cases fl with
    | next => exact False.elim hq
    | brk => exact False.elim hq
    | cont => exact False.elim hq
    | ret u =>
      obtain ⟨v, H', hos, bare, un, hok, rv, it, hyoung, hn, ev, eH⟩ := hq
      have I2 : Inv X pins σ H' s' := I1.call' (ch := []) hos un hok bare (fun b z => nomatch z)
      subst ev eH
      obtain rfl : u = Value.ref it := rv
      obtain ⟨hit, _, _⟩ : ObjOk X.prog X.w _ s'.heap it (TitO t it) := I2.hok it _ upd_same
      have some_it : upd H1 it (TitO t it) it = some (TitO t it) := upd_same
      have I3 := untrack I2 hn
      have hf : FpOk X pins H1 it := by
        refine ⟨hn, fun z => ?_, fun z => ?_, .inr (Nat.le_trans I1.sz hyoung), fun x c e z => ?_, fun p hp z => ?_⟩
        · have q := I2.free
          rw [← z, upd_same] at q
          cases q
        · obtain ⟨_, o, ho, _⟩ := I2.ok.funs.mem z
          rw [I2.base.free it o ho (I2.ok.frf it z) fun w => I2.ok.exfs it w z] at some_it
          cases some_it
        · have q := I2.freeC x c e
          rw [z, upd_same] at q
          cases q
        · obtain ⟨_, n, _⟩ := I2.pin p hp
          rw [z, upd_same] at n
          cases n
      unfold PySem.W.OwitIt
      refine wpAny_specialOf hit.typeIs slot_tupleiter_next.lookup ?_
      exact ⟨it, [it], _, Itt X.K t, H1, rfl, I3, turn_tuple t it, hit, fun b hb => by
        have e : b = it := by simpa using hb
        rw [e]
        exact hf, hR⟩
end
end K47

/-! K47M: the mathematics: calls as data, what a call does, lines walked through, choices of indexes; and how such data stands in the heap. -/
namespace K47
open PySem L2

/-! ### calls -/
inductive Cl where
  | all (k : Int) | up (f k : Int) | swap (f g : Int) | wheel (f g k : Int) | about | front (f g : Int)
def cv : Cl → List V
  | .all k => [.str "all", .int k]
  | .up f k => [.str "up", .int f, .int k]
  | .swap f g => [.str "swap", .int f, .int g]
  | .wheel f g k => [.str "wheel", .int f, .int g, .int k]
  | .about => [.str "about"]
  | .front f g => [.str "front", .int f, .int g]
def ab (k : Int) : Int := if k < 0 then -k else k
def csize : Cl → Int
  | .all k => ab k
  | .up _ k => ab k
  | .wheel _ _ k => ab k
  | _ => 1
def NumOk (k : Int) : Prop := k ≠ 0 ∧ -12 ≤ k ∧ k ≤ 12
def FileOk (n f : Int) : Prop := 0 ≤ f ∧ f < n
/-- a call for n files, of a small number -/
def OkC (n : Int) : Cl → Prop
  | .all k => NumOk k
  | .up f k => FileOk n f ∧ NumOk k
  | .swap f g => FileOk n f ∧ FileOk n g ∧ f ≠ g
  | .wheel f g k => FileOk n f ∧ FileOk n g ∧ f ≠ g ∧ NumOk k
  | .about => True
  | .front f g => FileOk n f ∧ FileOk n g ∧ f ≠ g
theorem ab_le {k : Int} (h : NumOk k) : 0 ≤ ab k ∧ ab k ≤ 12 := by
  obtain ⟨_, _, _⟩ := h
  unfold ab
  split <;> omega
theorem csize_le {n : Int} : ∀ {c : Cl}, OkC n c → 0 ≤ csize c ∧ csize c ≤ 12
  | .all k, h => ab_le h
  | .up f k, h => ab_le h.2
  | .swap f g, _ => ⟨by show (0 : Int) ≤ 1; decide, by show (1 : Int) ≤ 12; decide⟩
  | .wheel f g k, h => ab_le h.2.2.2
  | .about, _ => ⟨by decide, by decide⟩
  | .front f g, _ => ⟨by show (0 : Int) ≤ 1; decide, by show (1 : Int) ≤ 12; decide⟩
def sizeOf (cs : List Cl) : Int := (cs.map csize).sum
theorem sizeOf_cons (c : Cl) (cs : List Cl) : sizeOf (c :: cs) = csize c + sizeOf cs := by
  unfold sizeOf
  rw [List.map_cons, List.sum_cons]
theorem sizeOf_le {n : Int} : ∀ {cs : List Cl}, (∀ c ∈ cs, OkC n c) → 0 ≤ sizeOf cs ∧ sizeOf cs ≤ 12 * (cs.length : Int)
  | [], _ => ⟨by decide, by decide⟩
  | c :: cs, h => by
    have h1 := csize_le (h c List.mem_cons_self)
    have h2 := sizeOf_le (cs := cs) fun d hd => h d (List.mem_cons_of_mem _ hd)
    rw [sizeOf_cons, List.length_cons]
    omega
theorem sizeOf_append (cs ds : List Cl) : sizeOf (cs ++ ds) = sizeOf cs + sizeOf ds := by
  unfold sizeOf
  rw [List.map_append, List.sum_append]

/-! ### what a call does -/
abbrev Pl := Int × Int
/-- round the wheel of a and b -/
def ringC (rows a b k : Int) (p : Pl) : Pl :=
  let seat := ((if p.2 = a then rows - 1 - p.1 else rows + p.1) + k) % (2 * rows)
  if seat < rows then (rows - 1 - seat, a) else (seat - rows, b)
def crossC (a b : Int) (p : Pl) : Pl := (p.1, if p.2 = a then b else if p.2 = b then a else p.2)
def stepC (files rows : Int) (p : Pl) : Cl → Pl
  | .all k => ((p.1 - k) % rows, p.2)
  | .up f k => if p.2 = f then ((p.1 - k) % rows, p.2) else p
  | .about => (rows - 1 - p.1, files - 1 - p.2)
  | .wheel a b k => if p.2 = a ∨ p.2 = b then ringC rows a b k p else p
  | .swap a b => crossC a b p
  | .front a b => if p.1 = 0 then crossC a b p else p
def InLine (files rows : Int) (p : Pl) : Prop := 0 ≤ p.1 ∧ p.1 < rows ∧ 0 ≤ p.2 ∧ p.2 < files
theorem emod_in (a : Int) {b : Int} (h : 0 < b) : 0 ≤ a % b ∧ a % b < b := ⟨Int.emod_nonneg _ (by omega), Int.emod_lt_of_pos _ h⟩
theorem ring_in {files rows a b k : Int} {p : Pl} (hp : InLine files rows p) (ha : FileOk files a) (hb : FileOk files b) : InLine files rows (ringC rows a b k p) := by
  obtain ⟨h1, h2, h3, h4⟩ := hp
  have hm := emod_in ((if p.2 = a then rows - 1 - p.1 else rows + p.1) + k) (b := 2 * rows) (by omega)
  unfold ringC
  dsimp only
  generalize ((if p.2 = a then rows - 1 - p.1 else rows + p.1) + k) % (2 * rows) = seat at hm ⊢
  obtain ⟨_, _⟩ := hm
  obtain ⟨_, _⟩ := ha
  obtain ⟨_, _⟩ := hb
  split
  · exact ⟨by show 0 ≤ rows - 1 - seat; omega, by show rows - 1 - seat < rows; omega, by assumption, by assumption⟩
  · exact ⟨by show 0 ≤ seat - rows; omega, by show seat - rows < rows; omega, by assumption, by assumption⟩
theorem cross_in {files rows a b : Int} {p : Pl} (hp : InLine files rows p) (ha : FileOk files a) (hb : FileOk files b) : InLine files rows (crossC a b p) := by
  obtain ⟨h1, h2, h3, h4⟩ := hp
  obtain ⟨_, _⟩ := ha
  obtain ⟨_, _⟩ := hb
  refine ⟨h1, h2, ?_, ?_⟩
  · show 0 ≤ if p.2 = a then b else if p.2 = b then a else p.2
    split
    · assumption
    · split <;> assumption
  · show (if p.2 = a then b else if p.2 = b then a else p.2) < files
    split
    · assumption
    · split <;> assumption
theorem step_in {files rows : Int} {p : Pl} (hp : InLine files rows p) : ∀ {c : Cl}, OkC files c → InLine files rows (stepC files rows p c) := by
  intro c hc
  have hr : 0 < rows := by
    obtain ⟨h1, h2, _⟩ := hp
    omega
  have hm : ∀ k : Int, InLine files rows ((p.1 - k) % rows, p.2) := fun k => ⟨(emod_in _ hr).1, (emod_in _ hr).2, hp.2.2.1, hp.2.2.2⟩
  cases c with
  | all k => exact hm k
  | up f k =>
    show InLine files rows (if p.2 = f then _ else p)
    split
    · exact hm k
    · exact hp
  | about =>
    obtain ⟨h1, h2, h3, h4⟩ := hp
    exact ⟨by show 0 ≤ rows - 1 - p.1; omega, by show rows - 1 - p.1 < rows; omega, by show 0 ≤ files - 1 - p.2; omega, by show files - 1 - p.2 < files; omega⟩
  | wheel a b k =>
    show InLine files rows (if p.2 = a ∨ p.2 = b then _ else p)
    split
    · exact ring_in hp hc.1 hc.2.1
    · exact hp
  | swap a b => exact cross_in hp hc.1 hc.2.1
  | front a b =>
    show InLine files rows (if p.1 = 0 then _ else p)
    split
    · exact cross_in hp hc.1 hc.2.1
    · exact hp
def runC (files rows : Int) (cs : List Cl) (p : Pl) : Pl := cs.foldl (stepC files rows) p
theorem run_snoc (files rows : Int) (cs : List Cl) (c : Cl) (p : Pl) : runC files rows (cs ++ [c]) p = stepC files rows (runC files rows cs p) c := by
  unfold runC
  rw [List.foldl_append]
  rfl
theorem run_in {files rows : Int} : ∀ {cs : List Cl} {p : Pl}, InLine files rows p → (∀ c ∈ cs, OkC files c) → InLine files rows (runC files rows cs p)
  | [], _, hp, _ => hp
  | c :: cs, p, hp, h => run_in (cs := cs) (step_in hp (h c List.mem_cons_self)) fun d hd => h d (List.mem_cons_of_mem _ hd)

/-! ### lines -/
def SameAt (files : Int) (cs ds : List Cl) (rows : Int) (p : Pl) : Prop := runC files rows cs p = runC files rows ds p
instance (files : Int) (cs ds : List Cl) (rows : Int) (p : Pl) : Decidable (SameAt files cs ds rows p) := inferInstanceAs (Decidable (_ = _))
def SameLine (files : Int) (cs ds : List Cl) (rows : Int) : Prop := ∀ p, InLine files rows p → SameAt files cs ds rows p
/-- alike on the lines of 1 .. most rows -/
def SameTo (files : Int) (cs ds : List Cl) (most : Int) : Prop := ∀ rows, 1 ≤ rows → rows ≤ most → SameLine files cs ds rows
open Classical in
/-- the scripts cs and ds are alike, by the bound of both -/
noncomputable def alikeB (files : Int) (cs ds : List Cl) : Bool := decide (SameTo files cs ds (4 * max (sizeOf cs) (sizeOf ds) + 3))
open Classical in
theorem alike_self (files : Int) (cs : List Cl) : alikeB files cs cs = true := by
  unfold alikeB
  exact decide_eq_true fun _ _ _ _ _ => rfl

/-! ### choices -/
def pick {α : Type} (xs : List α) (is : List Nat) : List α := is.filterMap fun j => xs[j]?
def leastOf (js : List Nat) : Nat := match js.getLast? with
  | none => 0
  | some j => j + 1
/-- js with one more index behind it -/
def longer (n : Nat) (js : List Nat) : List (List Nat) := (List.range' (leastOf js) (n - leastOf js)).map fun j => js ++ [j]
def choices (n : Nat) : Nat → List (List Nat)
  | 0 => [[]]
  | s + 1 => (choices n s).flatMap (longer n)
/-- all of fewer than m indexes -/
def upTo (n : Nat) : Nat → List (List Nat)
  | 0 => []
  | s + 1 => upTo n s ++ choices n s
theorem longer_len (n : Nat) (js : List Nat) : (longer n js).length ≤ n := by
  unfold longer
  rw [List.length_map, List.length_range']
  omega
theorem flat_len (n : Nat) : ∀ l : List (List Nat), (l.flatMap (longer n)).length ≤ l.length * n
  | [] => by simp
  | a :: l => by
    have h1 := longer_len n a
    have h2 := flat_len n l
    rw [List.flatMap_cons, List.length_append, List.length_cons, Nat.succ_mul]
    omega
theorem choices_len (n : Nat) : ∀ s, (choices n s).length ≤ n ^ s
  | 0 => Nat.le_refl _
  | s + 1 => by
    have h1 := flat_len n (choices n s)
    have h2 := Nat.mul_le_mul_right n (choices_len n s)
    show ((choices n s).flatMap (longer n)).length ≤ n ^ (s + 1)
    rw [Nat.pow_succ]
    omega
/-- an ascending list of s indexes below n -/
def Asc (n : Nat) (js : List Nat) : Prop := js.Pairwise (· < ·) ∧ ∀ j ∈ js, j < n
theorem least_gt {js : List Nat} (h : js.Pairwise (· < ·)) : ∀ j ∈ js, j < leastOf js := by
  intro j hj
  unfold leastOf
  cases e : js.getLast? with
  | none =>
    rw [List.getLast?_eq_none_iff] at e
    rw [e] at hj
    cases hj
  | some k =>
    obtain ⟨ys, rfl⟩ := List.getLast?_eq_some_iff.mp e
    rw [List.pairwise_append] at h
    show j < k + 1
    rcases List.mem_append.mp hj with hj | hj
    · exact Nat.lt_succ_of_lt (h.2.2 j hj k List.mem_cons_self)
    · have : j = k := by simpa using hj
      omega
theorem mem_longer {n : Nat} {js ks : List Nat} (h : ks ∈ longer n js) : ∃ j, leastOf js ≤ j ∧ j < n ∧ ks = js ++ [j] := by
  unfold longer at h
  obtain ⟨j, hj, rfl⟩ := List.mem_map.mp h
  rw [List.mem_range'_1] at hj
  exact ⟨j, hj.1, by omega, rfl⟩
theorem choices_asc (n : Nat) : ∀ s, ∀ js ∈ choices n s, Asc n js ∧ js.length = s
  | 0, js, h => by
    have e : js = [] := by simpa [choices] using h
    subst e
    exact ⟨⟨.nil, fun _ z => nomatch z⟩, rfl⟩
  | s + 1, ks, h => by
    obtain ⟨js, hjs, hk⟩ := List.mem_flatMap.mp (show ks ∈ (choices n s).flatMap (longer n) from h)
    obtain ⟨⟨hp, hb⟩, hl⟩ := choices_asc n s js hjs
    obtain ⟨j, h1, h2, rfl⟩ := mem_longer hk
    refine ⟨⟨?_, fun i hi => ?_⟩, by rw [List.length_append, hl] <;> rfl⟩
    · rw [List.pairwise_append]
      refine ⟨hp, List.pairwise_singleton _ _, fun a ha b hb' => ?_⟩
      have : b = j := by simpa using hb'
      have := least_gt hp a ha
      omega
    · rcases List.mem_append.mp hi with hi | hi
      · exact hb i hi
      · have : i = j := by simpa using hi
        omega
theorem upTo_asc (n : Nat) : ∀ m, ∀ js ∈ upTo n m, Asc n js
  | 0, js, h => nomatch h
  | m + 1, js, h => by
    rcases List.mem_append.mp (show js ∈ upTo n m ++ choices n m from h) with h | h
    · exact upTo_asc n m js h
    · exact (choices_asc n m js h).1
theorem upTo_len (n : Nat) : ∀ m, (upTo n m).length ≤ m * (n + 1) ^ m
  | 0 => Nat.le_refl _
  | m + 1 => by
    have h1 := upTo_len n m
    have h2 := choices_len n m
    have h3 : n ^ m ≤ (n + 1) ^ m := Nat.pow_le_pow_left (Nat.le_succ n) m
    have h4 : (n + 1) ^ m ≤ (n + 1) ^ (m + 1) := Nat.pow_le_pow_right (Nat.succ_pos n) (Nat.le_succ m)
    have h5 : m * (n + 1) ^ m ≤ m * (n + 1) ^ (m + 1) := Nat.mul_le_mul_left m h4
    show (upTo n m ++ choices n m).length ≤ _
    rw [List.length_append, Nat.succ_mul]
    omega
/-- n ascending indexes below n are all -/
theorem asc_get : ∀ {js : List Nat} {n : Nat}, Asc n js → ∀ (i : Nat) (h : i < js.length), i ≤ js[i] ∧ js[i] + (js.length - 1 - i) < n := by
  intro js n ⟨hp, hb⟩
  have lo : ∀ (i : Nat) (h : i < js.length), i ≤ js[i] := by
    intro i
    induction i with
    | zero => intro h; exact Nat.zero_le _
    | succ i ih =>
      intro h
      have h1 := ih (by omega)
      have h2 := (List.pairwise_iff_getElem.mp hp) i (i + 1) (by omega) h (Nat.lt_succ_self i)
      omega
  have hi : ∀ (d i : Nat) (h : i < js.length), js.length - 1 - i = d → js[i] + d < n := by
    intro d
    induction d with
    | zero =>
      intro i h _
      exact hb _ (List.getElem_mem h)
    | succ d ih =>
      intro i h e
      have h1 := ih (i + 1) (by omega) (by omega)
      have h2 := (List.pairwise_iff_getElem.mp hp) i (i + 1) h (by omega) (Nat.lt_succ_self i)
      omega
  exact fun i h => ⟨lo i h, hi _ i h rfl⟩
theorem asc_all {js : List Nat} {n : Nat} (h : Asc n js) (hl : js.length = n) : js = List.range n := by
  refine List.ext_getElem (by rw [List.length_range, hl]) fun i h1 h2 => ?_
  have := asc_get h i h1
  rw [List.getElem_range]
  omega
/-- the range grows choice by choice -/
theorem range_mem (n : Nat) : ∀ s, s ≤ n → List.range s ∈ choices n s
  | 0, _ => by simp [choices]
  | s + 1, h => by
    show _ ∈ (choices n s).flatMap (longer n)
    rw [List.mem_flatMap]
    refine ⟨List.range s, range_mem n s (by omega), ?_⟩
    have hl : leastOf (List.range s) = s := by
      unfold leastOf
      cases s with
      | zero => rfl
      | succ t => rw [List.range_succ, List.getLast?_append, List.getLast?_singleton] <;> rfl
    unfold longer
    rw [hl, List.mem_map]
    exact ⟨s, by rw [List.mem_range'_1]; omega, by rw [List.range_succ]⟩
theorem choices_full (n : Nat) : ∀ js ∈ choices n n, js = List.range n := fun js h =>
  let ⟨a, l⟩ := choices_asc n n js h
  asc_all a l
theorem pick_all {α : Type} (xs : List α) : pick xs (List.range xs.length) = xs := by
  unfold pick
  have e : ∀ (ys zs : List α), (List.range' ys.length zs.length).filterMap (fun j => (ys ++ zs)[j]?) = zs := by
    intro ys zs
    induction zs generalizing ys with
    | nil => rfl
    | cons z zs ih =>
      rw [List.length_cons, List.range'_succ, List.filterMap_cons]
      have h0 : (ys ++ z :: zs)[ys.length]? = some z := by simp
      rw [h0]
      have := ih (ys ++ [z])
      rw [List.length_append, List.append_assoc] at this
      show z :: _ = z :: zs
      congr 1
  have := e [] xs
  rw [List.range_eq_range']
  exact this

/-! ### what is kept -/
open Classical in
/-- the first choice that is alike, of those of fewer than all; else all -/
noncomputable def keptOf (files : Int) (cs : List Cl) : List Nat :=
  ((upTo cs.length cs.length).find? fun js => alikeB files cs (pick cs js)).getD (List.range cs.length)
/-- .. of all choices: what the law looks for -/
theorem kept_first (files : Int) (cs : List Cl) : (upTo cs.length (cs.length + 1)).find? (fun js => alikeB files cs (pick cs js)) = some (keptOf files cs) := by
  show (upTo cs.length cs.length ++ choices cs.length cs.length).find? _ = _
  rw [List.find?_append]
  unfold keptOf
  cases h : (upTo cs.length cs.length).find? fun js => alikeB files cs (pick cs js) with
  | some js => rfl
  | none =>
    show Option.or none _ = _
    rw [Option.none_or, Option.getD_none]
    have hm := range_mem cs.length cs.length (Nat.le_refl _)
    have hp : alikeB files cs (pick cs (List.range cs.length)) = true := by
      rw [pick_all]
      exact alike_self _ _
    cases e : (choices cs.length cs.length).find? fun js => alikeB files cs (pick cs js) with
    | none =>
      rw [List.find?_eq_none] at e
      exact absurd hp (e _ hm)
    | some ks =>
      rw [choices_full cs.length ks (List.mem_of_find?_eq_some e)]
end K47

/-! K47H: how the data stands in the heap; what of the text's top the defs lean on. -/
namespace K47
open PySem PySem.Spec PyProof.Rows L2

/-! ### heaps -/
theorem same_new {H : Hp} {p : Addr} {o : HO} (h : H p = none) : Same H (upd H p o) := fun b u e => by
  rw [upd_ne (ne_of_none e h)]
  exact e
theorem Same.mut {H H' : Hp} {p : Addr} {o : HO} (e : Same H H') (h : H p = none) : Same H (upd H' p o) := fun b u q => by
  rw [upd_ne (ne_of_none q h)]
  exact e b u q
/-- what stood is there beside a new thing -/
theorem nx {H : Hp} {p a : Addr} {o u : HO} (np : H p = none) (h : H a = some u) : upd H p o a = some u := same_new np a u h
theorem nxn {H : Hp} {p a : Addr} {o : HO} (h : upd H p o a = none) : H a = none ∧ a ≠ p := by
  by_cases e : a = p
  · rw [e, upd_same] at h
    cases h
  · rw [upd_ne e] at h
    exact ⟨h, e⟩
theorem tup_mono {K : PySem.W.Frag} {H H' : Hp} {a : Addr} {xs : List V} (e : Same H H') (h : SqT K H a xs) : SqT K H' a xs := by
  rcases h with (h | ⟨o, h⟩) | h
  · exact .inl (.inl (e _ _ h))
  · exact .inl (.inr ⟨o, e _ _ h⟩)
  · exact .inr h

/-! ### data -/
def CallsAt (H : Hp) (as : List Addr) (cs : List Cl) : Prop := Paired (fun a c => H a = some (.tup (cv c))) as cs
theorem CallsAt.mono {H H' : Hp} {as : List Addr} {cs : List Cl} (e : Same H H') (h : CallsAt H as cs) : CallsAt H' as cs := L2.Paired.mapP h fun a c q => e _ _ q
theorem paired_get {α β : Type} {F : α → β → Prop} : ∀ {l : List α} {m : List β} {i : Nat} {a : α}, Paired F l m → l[i]? = some a → ∃ b, m[i]? = some b ∧ F a b
  | _, _, _, _, .nil, e => by simp at e
  | _, _, 0, _, .cons r _, e => by
    simp at e
    subst e
    exact ⟨_, rfl, r⟩
  | _, _, i + 1, a, .cons _ t, e => by
    obtain ⟨b, h1, h2⟩ := paired_get (i := i) (a := a) t (by simpa using e)
    exact ⟨b, by simpa using h1, h2⟩
theorem paired_get' {α β : Type} {F : α → β → Prop} : ∀ {l : List α} {m : List β} {i : Nat} {b : β}, Paired F l m → m[i]? = some b → ∃ a, l[i]? = some a ∧ F a b
  | _, _, _, _, .nil, e => by simp at e
  | _, _, 0, _, .cons r _, e => by
    simp at e
    subst e
    exact ⟨_, rfl, r⟩
  | _, _, i + 1, a, .cons _ t, e => by
    obtain ⟨b, h1, h2⟩ := paired_get' (i := i) (b := a) t (by simpa using e)
    exact ⟨b, by simpa using h1, h2⟩
theorem paired_app {α β : Type} {F : α → β → Prop} : ∀ {l l' : List α} {m m' : List β}, Paired F l m → Paired F l' m' → Paired F (l ++ l') (m ++ m')
  | _, _, _, _, .nil, h => h
  | _, _, _, _, .cons r t, h => .cons r (paired_app t h)
theorem paired_take {α β : Type} {F : α → β → Prop} : ∀ {l : List α} {m : List β} (n : Nat), Paired F l m → Paired F (l.take n) (m.take n)
  | _, _, 0, _ => .nil
  | _, _, _ + 1, .nil => .nil
  | _, _, n + 1, .cons r t => .cons r (paired_take n t)
theorem paired_drop {α β : Type} {F : α → β → Prop} : ∀ {l : List α} {m : List β} (n : Nat), Paired F l m → Paired F (l.drop n) (m.drop n)
  | _, _, 0, h => h
  | _, _, _ + 1, .nil => .nil
  | _, _, n + 1, .cons _ t => paired_drop n t
theorem paired_pick {α β : Type} {F : α → β → Prop} {l : List α} {m : List β} (h : Paired F l m) : ∀ is : List Nat, Paired F (pick l is) (pick m is)
  | [] => .nil
  | i :: is => by
    have ih := paired_pick h is
    unfold pick at ih ⊢
    rw [List.filterMap_cons, List.filterMap_cons]
    cases e : l[i]? with
    | some a =>
      obtain ⟨b, e2, r⟩ := paired_get h e
      rw [e2]
      exact .cons r ih
    | none =>
      have hl := h.length
      rw [List.getElem?_eq_none_iff] at e
      rw [List.getElem?_eq_none (by omega)]
      exact ih
abbrev refs (as : List Addr) : List V := as.map V.ref
abbrev intV (ns : List Int) : List V := ns.map V.int
abbrev natV (ns : List Nat) : List V := ns.map fun (n : Nat) => V.int (n : Int)
/-- a place as a tuple -/
abbrev plT (p : Pl) : HO := .tup [.int p.1, .int p.2]
/-- the attributes of a Script -/
def sf (n : Int) (t : Addr) : List (Str × V) := putF "steps" (.ref t) (putF "width" (.int n) [])
theorem sw_ne : ¬ (("steps" : Str) = "width") := by decide +kernel
theorem ws_ne : ¬ (("width" : Str) = "steps") := by decide +kernel
theorem sf_steps (n : Int) (t : Addr) : (sf n t).lookup ("steps" : Str) = some (.ref t) := by
  unfold sf
  rw [lookup_putF, if_pos rfl]
theorem sf_width (n : Int) (t : Addr) : (sf n t).lookup ("width" : Str) = some (.int n) := by
  unfold sf
  rw [lookup_putF, if_neg ws_ne, lookup_putF, if_pos rfl]
theorem sf_no (n : Int) (t : Addr) {m : Str} (h1 : ¬ m = "steps") (h2 : ¬ m = "width") : (sf n t).lookup m = none := by
  unfold sf
  rw [lookup_putF, if_neg h1, lookup_putF, if_neg h2]
  all_goals rfl
/-- a Script at x: its files, its calls -/
def ScriptAt (C : Addr) (H : Hp) (x : Addr) (n : Int) (as : List Addr) (cs : List Cl) : Prop :=
  ∃ dx t, H x = some (.ins C dx (sf n t)) ∧ H t = some (.tup (refs as)) ∧ CallsAt H as cs
theorem ScriptAt.mono {C : Addr} {H H' : Hp} {x : Addr} {n : Int} {as : List Addr} {cs : List Cl} (e : Same H H') : ScriptAt C H x n as cs → ScriptAt C H' x n as cs
  | ⟨dx, t, h1, h2, h3⟩ => ⟨dx, t, e _ _ h1, e _ _ h2, h3.mono e⟩
/-- numbers of files, of rows -/
def FilesOk (n : Int) : Prop := n = 2 ∨ n = 3
def RowsOk (r : Int) : Prop := 1 ≤ r ∧ r ≤ 1000
def AllOk (n : Int) (cs : List Cl) : Prop := cs.length ≤ 6 ∧ ∀ c ∈ cs, OkC n c

/-! ### what the defs lean on of the top -/
structure Txt (K : PySem.W.Frag) (mg : Str → Option Value) (w : World) (C aN aF aO : Addr) (eF eO : Array DictEntry) (nF nO : Nat) : Prop where
  cl : Cls K C
  nW : NoAttr K C "width"
  nS : NoAttr K C "steps"
  len : mg "len" = none
  abs : mg "abs" = none
  max : mg "max" = none
  int : mg "int" = none
  isinstance : mg "isinstance" = none
  all : mg "all" = none
  sum : mg "sum" = none
  tuple : mg "tuple" = none
  list : mg "list" = none
  dict : mg "dict" = none
  range : mg "range" = none
  iter : mg "iter" = none
  str : mg "str" = none
  bool : mg "bool" = none
  m_BY_NUMBER : mg "BY_NUMBER" = some (.ref aN)
  m_BY_FILES : mg "BY_FILES" = some (.ref aF)
  m_OPEN_CALLS : mg "OPEN_CALLS" = some (.ref aO)
  t_BY_NUMBER : ∀ H : Hp, SqT K H aN [.str "all", .str "up", .str "wheel"]
  d_BY_FILES : KDict K w aF eF nF
  d_OPEN_CALLS : KDict K w aO eO nO
  f_all : ∃ t, PySem.W.nsIn K aF "all" = some (some (.int 0 t))
  f_up : ∃ t, PySem.W.nsIn K aF "up" = some (some (.int 1 t))
  f_swap : ∃ t, PySem.W.nsIn K aF "swap" = some (some (.int 2 t))
  f_wheel : ∃ t, PySem.W.nsIn K aF "wheel" = some (some (.int 2 t))
  f_about : ∃ t, PySem.W.nsIn K aF "about" = some (some (.int 0 t))
  f_front : ∃ t, PySem.W.nsIn K aF "front" = some (some (.int 2 t))
  o_all : PySem.W.nsIn K aO "all" = some none
  o_up : PySem.W.nsIn K aO "up" = some none
  o_swap : PySem.W.nsIn K aO "swap" = some none
  o_wheel : PySem.W.nsIn K aO "wheel" = some none
  o_about : PySem.W.nsIn K aO "about" = some none
  o_front : PySem.W.nsIn K aO "front" = some none

/-! ### a test whose outcome is plain -/
theorem iteY {c : Bool} {A B : Prop} (e : c = true) (h : A) : if c = true then A else B := by
  rw [if_pos e]
  exact h
theorem iteN {c : Bool} {A B : Prop} (e : c = false) (h : B) : if c = true then A else B := by
  subst e
  exact iteF h
end K47

/-! K47P1: kinds, calls, moves: the small defs. -/
namespace K47
open PySem PySem.Spec PyProof.Rows L2
section
variable {P : Program} {w : World} {K : PySem.W.Frag} {mg : Str → Option Value} {base : Heap} {C aN aF aO : Addr} {eF eO : Array DictEntry} {nF nO : Nat}

/-! ### is_integer, is_files, is_index -/
def spInteger : Sp := fun vs H Q _ => ∃ i : Int, vs = [.int i] ∧ Q (.bl true) H
abbrev st_is_integer : Stmt := top 8
abbrev ps_is_integer : List Str := ["thing"]
abbrev N_is_integer : List Str := ["thing"]
theorem sc_is_integer : FnScope N_is_integer ps_is_integer (defScope st_is_integer) := ⟨rfl, rfl, rfl, by decide +kernel, rfl, by decide +kernel, by decide +kernel⟩
theorem d_is_integer (F : FunAt K mg "is_integer" "is_integer" st_is_integer ps_is_integer) (T : Txt K mg w C aN aF aO eF eO nF nO) : Def P w K mg base "is_integer" 1 spInteger := by
  refine def_of F sc_is_integer (fun vs H Q E h => ?_) (fun f cdv A outer s H vs Q E hr h => ?_)
  · obtain ⟨i, rfl, _⟩ := h
    rfl
  · obtain ⟨i, rfl, k⟩ := h
    have nd := sc_is_integer.nd
    refine ⟨_, (pss_one (ps_ret (pe_and (pe_callB call_isi (by rfl) T.isinstance (by decide +kernel) (pa_cons (pv 0) (pa_cons (pe_bltn (v := .ty "int") (u := .type "int") (by rfl) T.int (by decide +kernel) rfl) pa_nil))) (pe_one (pe_not (pe_callB call_isi (by rfl) T.isinstance (by decide +kernel) (pa_cons (pv 0) (pa_cons (pe_bltn (v := .ty "bool") (u := .type "bool") (by rfl) T.bool (by decide +kernel) rfl) pa_nil)))))))), ?_⟩
    refine ⟨_, rfl, _, _, .type "int", .type "int", true, rfl, .ty _, .base (.int _), kit_ty (by decide +kernel), true, rfl, iteT ?_⟩
    exact ⟨_, rfl, _, _, .type "int", .type "bool", false, rfl, .ty _, .base (.int _), kit_ty (by decide +kernel), false, rfl, k⟩
def spFiles : Sp := fun vs H Q _ => ∃ n : Int, vs = [.int n] ∧ FilesOk n ∧ ∀ H', Same H H' → Q (.bl true) H'
abbrev st_is_files : Stmt := top 9
abbrev ps_is_files : List Str := ["thing"]
abbrev N_is_files : List Str := ["thing"]
theorem sc_is_files : FnScope N_is_files ps_is_files (defScope st_is_files) := ⟨rfl, rfl, rfl, by decide +kernel, rfl, by decide +kernel, by decide +kernel⟩
theorem d_is_files (F : FunAt K mg "is_files" "is_files" st_is_files ps_is_files) (T : Txt K mg w C aN aF aO eF eO nF nO) (D_is_integer : Def P w K mg base "is_integer" 1 spInteger) : Def P w K mg base "is_files" 2 spFiles := by
  refine def_of F sc_is_files (fun vs H Q E h => ?_) (fun f cdv A outer s H vs Q E hr h => ?_)
  · obtain ⟨i, rfl, _⟩ := h
    rfl
  · obtain ⟨n, rfl, hn, k⟩ := h
    have nd := sc_is_files.nd
    refine ⟨_, (pss_one (ps_ret (pe_and (pe_callD D_is_integer (hr.mono (by decide)) (by rfl) (pa_cons (pv 0) pa_nil)) (pe_one (pe_cmpR op_in_seq (pv 0) (pe_tup (pa_cons pe_int (pa_cons pe_int pa_nil))) (by rfl)))))), ?_⟩
    refine ⟨_, rfl, n, rfl, true, rfl, iteT ?_⟩
    refine ⟨_, rfl, by show 2 ≤ sizeLine; decide, fun p np => ?_⟩
    refine ⟨p, _, rfl, .inr (SqT.of upd_same), rfl, rfl, ?_⟩
    have e : inV (.int n) [.int 2, .int 3] = true := by
      rcases hn with rfl | rfl <;> decide +kernel
    show Q (.bl (inV (.int n) [.int 2, .int 3])) _
    rw [e]
    exact k _ (same_new np)
def spIndex : Sp := fun vs H Q _ => ∃ i n : Int, vs = [.int i, .int n] ∧ Q (.bl (decide (0 ≤ i ∧ i < n))) H
abbrev st_is_index : Stmt := top 10
abbrev ps_is_index : List Str := ["thing", "many"]
abbrev N_is_index : List Str := ["thing", "many"]
theorem sc_is_index : FnScope N_is_index ps_is_index (defScope st_is_index) := ⟨rfl, rfl, rfl, by decide +kernel, rfl, by decide +kernel, by decide +kernel⟩
theorem d_is_index (F : FunAt K mg "is_index" "is_index" st_is_index ps_is_index) (T : Txt K mg w C aN aF aO eF eO nF nO) (D_is_integer : Def P w K mg base "is_integer" 1 spInteger) : Def P w K mg base "is_index" 2 spIndex := by
  refine def_of F sc_is_index (fun vs H Q E h => ?_) (fun f cdv A outer s H vs Q E hr h => ?_)
  · obtain ⟨i, n, rfl, _⟩ := h
    rfl
  · obtain ⟨i, n, rfl, k⟩ := h
    have nd := sc_is_index.nd
    refine ⟨_, (pss_one (ps_ret (pe_and (pe_callD D_is_integer (hr.mono (by decide)) (by rfl) (pa_cons (pv 0) pa_nil)) (pe_one (pe_chain op_le op_lt pe_int (pv 0) (pv 1)))))), ?_⟩
    refine ⟨_, rfl, i, rfl, true, rfl, iteT ?_⟩
    refine ⟨_, rfl, _, _, rfl, rfl, _, rfl, ite2 (fun e => ?_) (fun e => ?_)⟩
    · refine ⟨_, rfl, _, _, rfl, rfl, ?_⟩
      have h0 : 0 ≤ i := of_decide_eq_true e
      have : decide (i < n) = decide (0 ≤ i ∧ i < n) := by
        rw [Bool.eq_iff_iff, decide_eq_true_iff, decide_eq_true_iff]
        exact ⟨fun h => ⟨h0, h⟩, fun h => h.2⟩
      show Q (.bl (decide (i < n))) _
      rw [this]
      exact k
    · have h0 : ¬ 0 ≤ i := fun h => e (decide_eq_true h)
      have : decide (0 ≤ i ∧ i < n) = false := decide_eq_false fun h => h0 h.1
      rw [this] at k
      exact k
end
end K47

/-! K47P2: is_call, is_straight, size_of. -/
namespace K47
open PySem PySem.Spec PyProof.Rows L2

/-! ### a call's tuple by its parts -/
abbrev BYN : List V := [.str "all", .str "up", .str "wheel"]
structure Form (n : Int) (xs : List V) (k : Str) (fs : List Int) (nb : Bool) : Prop where
  xs_ : ∃ q : Int, (nb = true → q ≠ 0) ∧ xs = .str k :: (fs.map V.int ++ if nb then [.int q] else [])
  fil : ∀ f ∈ fs, FileOk n f
  two : fs.length = 2 → ∃ f g, fs = [f, g] ∧ f ≠ g
  num : inV (.str k) BYN = nb
def kindS : Cl → Str
  | .all _ => "all"
  | .up _ _ => "up"
  | .swap _ _ => "swap"
  | .wheel _ _ _ => "wheel"
  | .about => "about"
  | .front _ _ => "front"
def filesC : Cl → List Int
  | .all _ => []
  | .up f _ => [f]
  | .swap f g => [f, g]
  | .wheel f g _ => [f, g]
  | .about => []
  | .front f g => [f, g]
def numC : Cl → Bool
  | .all _ => true
  | .up _ _ => true
  | .wheel _ _ _ => true
  | _ => false
theorem num_of (c : Cl) : inV (.str (kindS c)) BYN = numC c := by
  cases c
  · show inV (.str "all") BYN = true
    decide +kernel
  · show inV (.str "up") BYN = true
    decide +kernel
  · show inV (.str "swap") BYN = false
    decide +kernel
  · show inV (.str "wheel") BYN = true
    decide +kernel
  · show inV (.str "about") BYN = false
    decide +kernel
  · show inV (.str "front") BYN = false
    decide +kernel
theorem two_mem {p : Int → Prop} {f g : Int} (hf : p f) (hg : p g) : ∀ x ∈ [f, g], p x := fun x z => by
  rcases List.mem_cons.mp z with e | z
  · rw [e]
    exact hf
  · have e : x = g := by simpa using z
    rw [e]
    exact hg
theorem form_of {n : Int} : ∀ {c : Cl}, OkC n c → Form n (cv c) (kindS c) (filesC c) (numC c)
  | .all k, h => ⟨⟨k, fun _ => h.1, rfl⟩, fun _ z => (nomatch (show _ ∈ ([] : List Int) from z)), fun z => absurd z (show ¬ (0 = 2) by decide), num_of _⟩
  | .up f k, h => ⟨⟨k, fun _ => h.2.1, rfl⟩, fun g z => by
      have e : g = f := by simpa [filesC] using z
      rw [e]
      exact h.1, fun z => absurd z (show ¬ (1 = 2) by decide), num_of _⟩
  | .swap f g, h => ⟨⟨0, fun z => absurd z (show ¬ (false = true) by decide), rfl⟩, two_mem h.1 h.2.1, fun _ => ⟨f, g, rfl, h.2.2⟩, num_of _⟩
  | .wheel f g k, h => ⟨⟨k, fun _ => h.2.2.2.1, rfl⟩, two_mem h.1 h.2.1, fun _ => ⟨f, g, rfl, h.2.2.1⟩, num_of _⟩
  | .about, _ => ⟨⟨0, fun z => absurd z (show ¬ (false = true) by decide), rfl⟩, fun _ z => (nomatch (show _ ∈ ([] : List Int) from z)), fun z => absurd z (show ¬ (0 = 2) by decide), num_of _⟩
  | .front f g, h => ⟨⟨0, fun z => absurd z (show ¬ (false = true) by decide), rfl⟩, two_mem h.1 h.2.1, fun _ => ⟨f, g, rfl, h.2.2⟩, num_of _⟩
theorem filesC_len (c : Cl) : (filesC c).length ≤ 2 := by cases c <;> simp [filesC]

section
variable {P : Program} {w : World} {K : PySem.W.Frag} {mg : Str → Option Value} {base : Heap} {C aN aF aO : Addr} {eF eO : Array DictEntry} {nF nO : Nat}
theorem Txt.files_ (T : Txt K mg w C aN aF aO eF eO nF nO) (c : Cl) : ∃ t, PySem.W.nsIn K aF (kindS c) = some (some (.int ((filesC c).length : Int) t)) := by
  cases c
  · exact T.f_all
  · exact T.f_up
  · exact T.f_swap
  · exact T.f_wheel
  · exact T.f_about
  · exact T.f_front
theorem Txt.open_ (T : Txt K mg w C aN aF aO eF eO nF nO) (c : Cl) : PySem.W.nsIn K aO (kindS c) = some none := by
  cases c
  · exact T.o_all
  · exact T.o_up
  · exact T.o_swap
  · exact T.o_wheel
  · exact T.o_about
  · exact T.o_front
theorem cut_files (k : Str) (fs : List Int) (r : List V) : cutV (.str k :: (fs.map V.int ++ r)) (some 1) (some (1 + (fs.length : Int))) = fs.map V.int := by
  have h1 : HT.sIx (V.str k :: (fs.map V.int ++ r)).length 0 (some 1) = 1 := by
    have := HT.sIx_nat (V.str k :: (fs.map V.int ++ r)).length 0 1
    simp only [List.length_cons] at this ⊢
    rw [show (1 : Int) = ((1 : Nat) : Int) from rfl, this]
    omega
  have h2 : HT.sIx (V.str k :: (fs.map V.int ++ r)).length (V.str k :: (fs.map V.int ++ r)).length (some (1 + (fs.length : Int))) = 1 + fs.length := by
    have := HT.sIx_nat (V.str k :: (fs.map V.int ++ r)).length (V.str k :: (fs.map V.int ++ r)).length (1 + fs.length)
    rw [show (1 + (fs.length : Int)) = ((1 + fs.length : Nat) : Int) by omega, this]
    simp only [List.length_cons, List.length_append, List.length_map]
    omega
  unfold cutV
  rw [h1, h2]
  show List.take (1 + fs.length - 1) (List.drop 1 (V.str k :: (fs.map V.int ++ r))) = _
  rw [show 1 + fs.length - 1 = (fs.map V.int).length by rw [List.length_map]; omega]
  show List.take (fs.map V.int).length (fs.map V.int ++ r) = _
  rw [List.take_left]

/-! ### is_call -/
def spCall : Sp := fun vs H Q _ => ∃ (n : Int) (a : Addr) (c : Cl), vs = [.int n, .ref a] ∧ OkC n c ∧ H a = some (.tup (cv c)) ∧ ∀ H', Same H H' → Q (.bl true) H'
abbrev st_is_call : Stmt := top 15
abbrev ps_is_call : List Str := ["files", "thing"]
abbrev N_is_call : List Str := ["files", "thing", "many", "numbers", "file"]
theorem sc_is_call : FnScope N_is_call ps_is_call (defScope st_is_call) := ⟨rfl, rfl, rfl, by decide +kernel, rfl, by decide +kernel, by decide +kernel⟩
theorem d_is_call (F : FunAt K mg "is_call" "is_call" st_is_call ps_is_call) (T : Txt K mg w C aN aF aO eF eO nF nO) (D_is_integer : Def P w K mg base "is_integer" 1 spInteger) (D_is_index : Def P w K mg base "is_index" 2 spIndex) :
    Def P w K mg base "is_call" 3 spCall := by
  refine def_of F sc_is_call (fun vs H Q E h => ?_) (fun f cdv A outer s H vs Q E hr h => ?_)
  · obtain ⟨_, _, _, rfl, _⟩ := h
    rfl
  · obtain ⟨n, a, c, rfl, hc, ha, k⟩ := h
    have nd := sc_is_call.nd
    obtain ⟨t, hF⟩ := T.files_ c
    have h2 := filesC_len c
    obtain ⟨⟨q, hq, ex⟩, hfil, htwo, hnum⟩ := form_of hc
    generalize kindS c = kd at *
    generalize filesC c = fs at *
    generalize numC c = nb at *
    rw [ex] at ha
    clear ex
    refine ⟨_, (pss_cons (ps_if (PW.pt (pw_or (pt_not (pt_val (pe_callB call_isi (by rfl) T.isinstance (by decide +kernel) (pa_cons (pv 1) (pa_cons (pe_bltn (v := .ty "tuple") (u := .type "tuple") (by rfl) T.tuple (by decide +kernel) rfl) pa_nil))))) (pw_or (pt_cmpR op_eq (pe_callB call_len_seq (by rfl) T.len PySem.boot_len (pa_cons (pv 1) pa_nil)) pe_int (nomark _)) (pw_or (pt_not (pt_val (pe_callB call_isi (by rfl) T.isinstance (by decide +kernel) (pa_cons (pe_ix ix_tup (pv 1) pe_int (fun _ _ => rfl)) (pa_cons (pe_bltn (v := .ty "str") (u := .type "str") (by rfl) T.str (by decide +kernel) rfl) pa_nil))))) (pw_or1 (pt_cmpR (op_notIn_kd T.d_BY_FILES) (pe_ix ix_tup (pv 1) pe_int (fun _ _ => rfl)) (pe_glob (v := V.ref _) (by rfl) T.m_BY_FILES rfl) (by rfl)))))))
    (pss_one (ps_ret pe_bl))
    pss_nil)
    (pss_cons (ps_par (i := 2) (j := 3) (by rfl) nd rfl rfl (by decide) rfl rfl (pa_cons (pe_ix ix_kdict (pe_glob (v := V.ref _) (by rfl) T.m_BY_FILES rfl) (pe_ix ix_tup (pv 1) pe_int (fun _ _ => rfl)) (fun _ _ => rfl)) (pa_cons (pe_callTy call_int1 (by rfl) T.int (by decide +kernel) (pa_cons (pe_cmpR op_in_seq (pe_ix ix_tup (pv 1) pe_int (fun _ _ => rfl)) (pe_glob (v := V.ref _) (by rfl) T.m_BY_NUMBER rfl) (by rfl)) pa_nil)) pa_nil)) (by rfl))
    (pss_cons (ps_if (PW.pt (pw_or (pt_cmpR op_ne (pe_callB call_len_seq (by rfl) T.len PySem.boot_len (pa_cons (pv 1) pa_nil)) (pe_op op_add (pe_op op_add pe_int (pv 2)) (pv 3)) (nomark _)) (pw_or1 (pt_not (pt_val (pe_callB (cr_all rfl) (by rfl) T.all (by decide +kernel) (pa_cons (pe_lc (own := [("file", 4)]) (g := gName 4) (tt := tYes) rfl nd (pi_tup (pe_slice sl_tup (pv 1) (po_some pe_int) (po_some (pe_op op_add pe_int (pv 2))))) (blkOk_by (N := N_is_call) (sc := defScope st_is_call) (by decide +kernel)) (fun _ _ _ _ _ => pg_name (i := 4) nd rfl (Or.inl rfl)) (fun _ _ _ _ _ => pts_nil) (fun _ _ _ _ _ => (pe_callD D_is_index (hr.mono (by decide)) (by rfl) (pa_cons (pv 4) (pa_cons (pv 0) pa_nil))))) pa_nil)))))))
    (pss_one (ps_ret pe_bl))
    pss_nil)
    (pss_cons (ps_if (PW.pt (pw_and (pt_cmpR op_eq (pv 2) pe_int (nomark _)) (pw_and1 (pt_cmpR op_eq (pe_ix ix_tup (pv 1) pe_int (fun _ _ => rfl)) (pe_ix ix_tup (pv 1) pe_int (fun _ _ => rfl)) (nomark _)))))
    (pss_one (ps_ret pe_bl))
    pss_nil)
    (pss_one (ps_ret (pe_or (pe_cmpR op_eq (pv 3) pe_int (nomark _)) (pe_one (pe_and (pe_callD D_is_integer (hr.mono (by decide)) (by rfl) (pa_cons (pe_ix ix_tup (pv 1) (pe_un un_neg pe_int) (fun _ _ => rfl)) pa_nil)) (pe_one (pe_cmpR op_ne (pe_ix ix_tup (pv 1) (pe_un un_neg pe_int) (fun _ _ => rfl)) pe_int (nomark _)))))))))))), ?_⟩
    have hl : ((V.str kd :: (fs.map V.int ++ if nb = true then [V.int q] else [])).length : Int) = 1 + (fs.length : Int) + (if nb = true then 1 else 0) := by
      cases nb <;> simp <;> omega
    refine ⟨_, rfl, _, _, .type "tuple", .type "tuple", true, rfl, .ty _, .base (.tup ha), kit_ty (by decide +kernel), true, rfl, iteF ?_⟩
    refine ⟨_, rfl, _, _, rfl, .inr (SqT.of ha), rfl, _, rfl, ite2 (fun e => ?_) (fun _ => ?_)⟩
    · have e := V.int.inj (of_decide_eq_true e)
      rw [hl] at e
      exfalso
      split at e <;> omega
    refine ⟨_, rfl, _, _, _, _, rfl, rfl, SqT.of ha, atI_nat (j := 0) rfl, _, _, .type "str", .type "str", true, rfl, .ty _, .base (.str _), kit_ty (by decide +kernel), true, rfl, iteF ?_⟩
    refine ⟨_, rfl, _, _, _, _, rfl, rfl, SqT.of ha, atI_nat (j := 0) rfl, _, _, rfl, rfl, hF, _, rfl, iteF ?_⟩
    -- many, numbers
    refine ⟨_, rfl, _, _, _, _, rfl, rfl, SqT.of ha, atI_nat (j := 0) rfl, aF, kd, .int (fs.length : Int), rfl, rfl, ⟨_, _, _, T.d_BY_FILES.at_, T.d_BY_FILES.lit, hF, ⟨_, rfl⟩⟩, ?_⟩
    refine ⟨_, rfl, _, _, _, _, rfl, rfl, SqT.of ha, atI_nat (j := 0) rfl, aN, BYN, rfl, .inr (T.t_BY_NUMBER _), rfl, rfl, .inr ⟨nb, congrArg (fun b => [V.bl b]) hnum, _, _, rfl, ?_⟩⟩
    -- len(thing) != 1 + many + numbers or not all(..)
    refine ⟨_, rfl, _, _, rfl, .inr (SqT.of ha), _, rfl, _, _, rfl, rfl, _, rfl, _, _, rfl, rfl, rfl, _, rfl, ite2 (fun e => ?_) (fun _ => ?_)⟩
    · rw [hl] at e
      simp at e
    refine ⟨_, rfl, _, rfl, _, rfl, _, _, rfl, rfl, _, rfl, a, _, rfl, SqT.of ha, ?_, fun p np => ?_⟩
    · rw [show (1 : Int) = ((1 : Nat) : Int) from rfl, HT.sIx_nat]
      simp only [List.length_cons]
      omega
    rw [cut_files]
    refine ⟨p, rfl, ⟨_, SqT.of upd_same⟩, fun D nD => lc_tup (K := K) (a := p) (xs := fs.map V.int) (fun i H' => Same H H' ∧ SqT K H' p (fs.map V.int) ∧ H' D = some (.lst (List.replicate i (.bl true))))
      ⟨(same_new np).trans (same_new nD), tup_mono (same_new nD) (SqT.of upd_same), upd_same⟩ (fun i H' _ g => g.2.1) ?_ ?_⟩
    · rintro i x H' hx ⟨s1, hp, hD⟩
      obtain ⟨z, hz, rfl⟩ : ∃ z, fs[i]? = some z ∧ V.int z = x := by
        rw [List.getElem?_map] at hx
        exact Option.map_eq_some_iff.mp hx
      have hzf := hfil z (List.mem_of_getElem? hz)
      have hi : i < fs.length := (List.getElem?_eq_some_iff.mp hz).1
      refine ⟨rfl, _, rfl, _, rfl, z, n, rfl, _, hD, ?_, ?_, ?_, ?_⟩
      · rw [List.length_replicate]
        exact Nat.lt_of_lt_of_le hi (Nat.le_trans h2 (by decide))
      · have nDH : H D = none := (nxn nD).1
        exact Same.mut (o := .lst (List.replicate i (V.bl true) ++ [V.bl (decide (0 ≤ z ∧ z < n))])) s1 nDH
      · have ne : p ≠ D := fun e => by
          rw [← e, upd_same] at nD
          cases nD
        rcases hp with (hp | ⟨o, hp⟩) | hp
        · exact .inl (.inl (by rw [upd_ne ne]; exact hp))
        · exact .inl (.inr ⟨o, by rw [upd_ne ne]; exact hp⟩)
        · exact .inr hp
      · rw [upd_same, List.replicate_succ', show decide (0 ≤ z ∧ z < n) = true from decide_eq_true hzf]
    · rintro H' ⟨s1, _, hD⟩
      have ha' := s1 _ _ ha
      rw [List.length_map] at hD
      have bs : List.replicate fs.length (V.bl true) = (List.replicate fs.length true).map V.bl := by rw [List.map_replicate]
      rw [bs] at hD
      refine ⟨D, _, rfl, SqL.of hD, true, ?_, iteF ?_⟩
      · rw [show (List.replicate fs.length true).all id = true by simp]
      -- many == 2 and thing[1] == thing[2]
      refine ⟨_, rfl, rfl, _, rfl, ite2 (fun e => ?_) (fun _ => ?_)⟩
      · have e := V.int.inj (of_decide_eq_true e)
        obtain ⟨f1, g1, rfl, hfg⟩ := htwo (by omega)
        refine ⟨_, rfl, _, _, _, _, rfl, rfl, SqT.of ha', atI_nat (j := 1) rfl, _, rfl, _, _, _, _, rfl, rfl, SqT.of ha', atI_nat (j := 2) rfl, rfl, _, rfl, ite2 (fun e => ?_) (fun _ => ?_)⟩
        · exact absurd (V.int.inj (of_decide_eq_true e)) hfg
        · cases nb with
          | false => exact ⟨_, rfl, rfl, _, rfl, iteT (k _ s1)⟩
          | true =>
            have hq0 : (!decide (V.int q = V.int 0)) = true := by
              rw [decide_eq_false fun e => hq rfl (V.int.inj e)]
              rfl
            refine ⟨_, rfl, rfl, _, rfl, iteF ?_⟩
            refine ⟨_, rfl, _, rfl, _, _, _, _, rfl, rfl, SqT.of ha', atI_last (V.str kd :: [f1, g1].map V.int) (V.int q), q, rfl, true, rfl, iteT ?_⟩
            refine ⟨_, rfl, _, rfl, _, _, _, _, rfl, rfl, SqT.of ha', atI_last (V.str kd :: [f1, g1].map V.int) (V.int q), rfl, ?_⟩
            rw [hq0]
            exact k _ s1
      · cases nb with
        | false => exact ⟨_, rfl, rfl, _, rfl, iteT (k _ s1)⟩
        | true =>
          have hq0 : (!decide (V.int q = V.int 0)) = true := by
            rw [decide_eq_false fun e => hq rfl (V.int.inj e)]
            rfl
          refine ⟨_, rfl, rfl, _, rfl, iteF ?_⟩
          refine ⟨_, rfl, _, rfl, _, _, _, _, rfl, rfl, SqT.of ha', atI_last (V.str kd :: fs.map V.int) (V.int q), q, rfl, true, rfl, iteT ?_⟩
          refine ⟨_, rfl, _, rfl, _, _, _, _, rfl, rfl, SqT.of ha', atI_last (V.str kd :: fs.map V.int) (V.int q), rfl, ?_⟩
          rw [hq0]
          exact k _ s1

/-! ### is_straight, size_of -/
def spStraight : Sp := fun vs H Q _ => ∃ (a : Addr) (c : Cl), vs = [.ref a] ∧ H a = some (.tup (cv c)) ∧ Q (.bl true) H
theorem head_of (c : Cl) : (cv c)[0]? = some (.str (kindS c)) := by cases c <;> rfl
abbrev st_is_straight : Stmt := top 16
abbrev ps_is_straight : List Str := ["call"]
abbrev N_is_straight : List Str := ["call"]
theorem sc_is_straight : FnScope N_is_straight ps_is_straight (defScope st_is_straight) := ⟨rfl, rfl, rfl, by decide +kernel, rfl, by decide +kernel, by decide +kernel⟩
theorem d_is_straight (F : FunAt K mg "is_straight_calls" "is_straight" st_is_straight ps_is_straight) (T : Txt K mg w C aN aF aO eF eO nF nO) : Def P w K mg base "is_straight_calls" 1 spStraight := by
  refine def_of F sc_is_straight (fun vs H Q E h => ?_) (fun f cdv A outer s H vs Q E hr h => ?_)
  · obtain ⟨_, _, rfl, _⟩ := h
    rfl
  · obtain ⟨a, c, rfl, ha, k⟩ := h
    have nd := sc_is_straight.nd
    refine ⟨_, (pss_one (ps_ret (pe_cmpR (op_notIn_kd T.d_OPEN_CALLS) (pe_ix ix_tup (pv 0) pe_int (fun _ _ => rfl)) (pe_glob (v := V.ref _) (by rfl) T.m_OPEN_CALLS rfl) (by rfl)))), ?_⟩
    exact ⟨_, rfl, _, _, _, _, rfl, rfl, SqT.of ha, atI_nat (j := 0) (head_of c), _, _, rfl, rfl, T.open_ c, k⟩
def spSizeOf : Sp := fun vs H Q _ => ∃ (a : Addr) (c : Cl), vs = [.ref a] ∧ H a = some (.tup (cv c)) ∧ Q (.int (csize c)) H
abbrev st_size_of : Stmt := top 18
abbrev ps_size_of : List Str := ["call"]
abbrev N_size_of : List Str := ["call"]
theorem sc_size_of : FnScope N_size_of ps_size_of (defScope st_size_of) := ⟨rfl, rfl, rfl, by decide +kernel, rfl, by decide +kernel, by decide +kernel⟩
theorem d_size_of (F : FunAt K mg "size_of" "size_of" st_size_of ps_size_of) (T : Txt K mg w C aN aF aO eF eO nF nO) : Def P w K mg base "size_of" 1 spSizeOf := by
  refine def_of F sc_size_of (fun vs H Q E h => ?_) (fun f cdv A outer s H vs Q E hr h => ?_)
  · obtain ⟨_, _, rfl, _⟩ := h
    rfl
  · obtain ⟨a, c, rfl, ha, k⟩ := h
    have nd := sc_size_of.nd
    refine ⟨_, (pss_one (ps_ret (pe_ifExp (pt_cmpR op_in_seq (pe_ix ix_tup (pv 0) pe_int (fun _ _ => rfl)) (pe_glob (v := V.ref _) (by rfl) T.m_BY_NUMBER rfl) (by rfl)) (pe_callB call_abs (by rfl) T.abs (by decide +kernel) (pa_cons (pe_ix ix_tup (pv 0) (pe_un un_neg pe_int) (fun _ _ => rfl)) pa_nil)) pe_int))), ?_⟩
    refine ⟨_, rfl, _, _, _, _, rfl, rfl, SqT.of ha, atI_nat (j := 0) (head_of c), _, _, rfl, .inr (T.t_BY_NUMBER _), rfl, rfl, _, rfl, ?_⟩
    have e : inV (.str (kindS c)) BYN = numC c := num_of c
    have last : numC c = true → ∃ q, atI (cv c) (-1) = some (.int q) ∧ csize c = ab q := by
      intro hn
      cases c with
      | all q => exact ⟨q, atI_last [.str "all"] _, rfl⟩
      | up f q => exact ⟨q, atI_last [.str "up", .int f] _, rfl⟩
      | wheel f g q => exact ⟨q, atI_last [.str "wheel", .int f, .int g] _, rfl⟩
      | swap f g => exact absurd hn (show ¬ (false = true) by decide)
      | about => exact absurd hn (show ¬ (false = true) by decide)
      | front f g => exact absurd hn (show ¬ (false = true) by decide)
    refine ite2 (fun hb => ?_) (fun hb => ?_)
    · have hb : inV (.str (kindS c)) BYN = true := hb
      obtain ⟨q, h1, h2⟩ := last (e ▸ hb)
      refine ⟨_, rfl, _, rfl, _, _, _, _, rfl, rfl, SqT.of ha, h1, _, rfl, ?_⟩
      rw [h2] at k
      exact k
    · have hb : ¬ inV (.str (kindS c)) BYN = true := hb
      rw [e] at hb
      have : csize c = 1 := by
        cases c with
        | all q => exact absurd (show numC (.all q) = true from rfl) hb
        | up f q => exact absurd (show numC (.up f q) = true from rfl) hb
        | wheel f g q => exact absurd (show numC (.wheel f g q) = true from rfl) hb
        | swap f g => rfl
        | about => rfl
        | front f g => rfl
      rw [this] at k
      exact k
end
end K47

/-! K47P3: on_wheel, moved_by, is_place, place_of. -/
namespace K47
open PySem PySem.Spec PyProof.Rows L2
theorem in1 (x a : Int) : inV (.int x) [.int a] = decide (x = a) := by
  show ((a == x) || false) = _
  rw [Bool.or_false, Bool.eq_iff_iff, beq_iff_eq, decide_eq_true_iff]
  exact eq_comm
theorem in2 (x a b : Int) : inV (.int x) [.int a, .int b] = decide (x = a ∨ x = b) := by
  show ((a == x) || ((b == x) || false)) = _
  rw [Bool.or_false, Bool.eq_iff_iff, Bool.or_eq_true, beq_iff_eq, beq_iff_eq, decide_eq_true_iff]
  exact or_congr eq_comm eq_comm
theorem in3 (x a b c : Int) : inV (.int x) [.int a, .int b, .int c] = decide (x = a ∨ x = b ∨ x = c) := by
  show ((a == x) || ((b == x) || ((c == x) || false))) = _
  rw [Bool.or_false, Bool.eq_iff_iff, Bool.or_eq_true, Bool.or_eq_true, beq_iff_eq, beq_iff_eq, beq_iff_eq, decide_eq_true_iff]
  exact or_congr eq_comm (or_congr eq_comm eq_comm)
theorem dI {i j : Int} (h : i = j) : decide (V.int i = V.int j) = true := decide_eq_true (congrArg V.int h)
theorem dN {i j : Int} (h : i ≠ j) : decide (V.int i = V.int j) = false := decide_eq_false fun e => h (V.int.inj e)
section
variable {P : Program} {w : World} {K : PySem.W.Frag} {mg : Str → Option Value} {base : Heap} {C aN aF aO : Addr} {eF eO : Array DictEntry} {nF nO : Nat}
theorem ring_eq {r a b k s0 : Int} {p : Pl} (h : s0 = if p.2 = a then r - 1 - p.1 else r + p.1) :
    ringC r a b k p = if (s0 + k) % (2 * r) < r then (r - 1 - (s0 + k) % (2 * r), a) else ((s0 + k) % (2 * r) - r, b) := by
  subst h
  rfl
/-- hands back a tuple with the place q: what stood is as it was -/
def Gives (q : Pl) (H : Hp) (Q : VK) : Prop := ∀ p H', Same H H' → H' p = some (plT q) → Q (.ref p) H'
def spOnWheel : Sp := fun vs H Q _ => ∃ (n r a b k : Int) (ac ap : Addr) (p : Pl), vs = [.ref ac, .int r, .ref ap] ∧ H ac = some (.tup (cv (.wheel a b k))) ∧ H ap = some (plT p) ∧ InLine n r p ∧ a ≠ b ∧ Gives (stepC n r p (.wheel a b k)) H Q
abbrev st_on_wheel : Stmt := top 20
abbrev ps_on_wheel : List Str := ["call", "rows", "place"]
abbrev N_on_wheel : List Str := ["call", "rows", "place", "row", "file", "seat"]
theorem sc_on_wheel : FnScope N_on_wheel ps_on_wheel (defScope st_on_wheel) := ⟨rfl, rfl, rfl, by decide +kernel, rfl, by decide +kernel, by decide +kernel⟩
theorem d_on_wheel (F : FunAt K mg "on_wheel" "on_wheel" st_on_wheel ps_on_wheel) (T : Txt K mg w C aN aF aO eF eO nF nO) : Def P w K mg base "on_wheel" 1 spOnWheel := by
  refine def_of F sc_on_wheel (fun vs H Q E h => ?_) (fun f cdv A outer s H vs Q E hr h => ?_)
  · obtain ⟨_, _, _, _, _, _, _, _, rfl, _⟩ := h
    rfl
  · obtain ⟨n, r, a, b, k, ac, ap, ⟨row, file⟩, rfl, hc, hp, hin, hab, go⟩ := h
    have nd := sc_on_wheel.nd
    have hr0 : 0 < r := by
      obtain ⟨h1, h2, _⟩ := hin
      exact Int.lt_of_le_of_lt h1 h2
    refine ⟨_, (pss_cons (ps_asg (pv 2) (pg_tup rfl (pgs_cons (pg_name (i := 3) nd rfl (Or.inl rfl)) (pgs_cons (pg_name (i := 4) nd rfl (Or.inl rfl)) pgs_nil))))
    (pss_cons (ps_if (pt_cmpR op_notIn_seq (pv 4) (pe_slice sl_tup (pv 0) (po_some pe_int) (po_some pe_int)) (by rfl))
    (pss_one (ps_ret (pv 2)))
    pss_nil)
    (pss_cons (ps_set (i := 5) nd rfl (Or.inl rfl) (pe_ifExp (pt_cmpR op_eq (pv 4) (pe_ix ix_tup (pv 0) pe_int (fun _ _ => rfl)) (nomark _)) (pe_op op_sub (pe_op op_sub (pv 1) pe_int) (pv 3)) (pe_op op_add (pv 1) (pv 3))))
    (pss_cons (ps_set (i := 5) nd rfl (Or.inl rfl) (pe_op op_mod (pe_op op_add (pv 5) (pe_ix ix_tup (pv 0) pe_int (fun _ _ => rfl))) (pe_op op_mul pe_int (pv 1))))
    (pss_one (ps_ret (pe_ifExp (pt_cmpR op_lt (pv 5) (pv 1) (nomark _)) (pe_tup (pa_cons (pe_op op_sub (pe_op op_sub (pv 1) pe_int) (pv 5)) (pa_cons (pe_ix ix_tup (pv 0) pe_int (fun _ _ => rfl)) pa_nil))) (pe_tup (pa_cons (pe_op op_sub (pv 5) (pv 1)) (pa_cons (pe_ix ix_tup (pv 0) pe_int (fun _ _ => rfl)) pa_nil)))))))))), ?_⟩
    refine ⟨_, rfl, ap, _, rfl, SqT.of hp, rfl, _, _, rfl, _, _, rfl, rfl, ?_⟩
    refine ⟨_, rfl, _, rfl, _, rfl, _, rfl, ac, _, rfl, SqT.of hc, (by show ¬ (HT.sIx 4 0 (some 1) = 0 ∧ HT.sIx 4 4 (some 3) = 4); decide), fun p np => ?_⟩
    refine ⟨p, [.int a, .int b], rfl, .inr (SqT.of upd_same), rfl, rfl, _, rfl, ?_⟩
    have sp := same_new (o := .tup (cutV (cv (.wheel a b k)) (some 1) (some 3))) np
    have hc' := sp _ _ hc
    have hp' := sp _ _ hp
    refine ite2 (fun e => ?_) (fun e => ?_)
    · have e : (!inV (.int file) [.int a, .int b]) = true := e
      rw [in2, Bool.not_eq_true'] at e
      have e := of_decide_eq_false e
      refine ⟨_, rfl, ?_⟩
      have : stepC n r (row, file) (.wheel a b k) = (row, file) := if_neg e
      rw [this] at go
      exact go _ _ sp hp'
    · have e : ¬ (!inV (.int file) [.int a, .int b]) = true := e
      rw [in2] at e
      have e : file = a ∨ file = b := by
        cases hd : decide (file = a ∨ file = b) with
        | true => exact of_decide_eq_true hd
        | false =>
          rw [hd] at e
          exact absurd rfl e
      have st : stepC n r (row, file) (.wheel a b k) = ringC r a b k (row, file) := if_pos e
      rw [st] at go
      have two : (0 : Int) < 2 * r := by omega
      refine ⟨_, rfl, _, rfl, _, _, _, _, rfl, rfl, SqT.of hc', (rfl : atI (cv (.wheel a b k)) 1 = some (.int a)), rfl, _, rfl, ?_⟩
      refine ite2 (fun e2 => ?_) (fun e2 => ?_)
      · have e2 : file = a := V.int.inj (of_decide_eq_true e2)
        rw [ring_eq (s0 := r - 1 - row) (by rw [if_pos e2])] at go
        refine ⟨_, rfl, _, _, rfl, rfl, _, rfl, _, _, rfl, rfl, ?_⟩
        refine ⟨_, rfl, _, rfl, _, _, _, _, rfl, rfl, SqT.of hc', (rfl : atI (cv (.wheel a b k)) 3 = some (.int k)), _, _, rfl, rfl, _, rfl, _, _, rfl, rfl, .inl ⟨by decide, by decide⟩, _, _, rfl, rfl, two, ?_⟩
        refine ⟨_, rfl, _, rfl, _, _, rfl, rfl, _, rfl, ite2 (fun e3 => ?_) (fun e3 => ?_)⟩
        · rw [if_pos (of_decide_eq_true e3)] at go
          exact ⟨_, rfl, _, _, rfl, rfl, _, rfl, _, _, rfl, rfl, _, rfl, _, _, _, _, rfl, rfl, SqT.of hc', (rfl : atI (cv (.wheel a b k)) 1 = some (.int a)), by show 2 ≤ sizeLine; decide, fun q nq => go _ _ (sp.trans (same_new nq)) upd_same⟩
        · rw [if_neg fun z => e3 (decide_eq_true z)] at go
          exact ⟨_, rfl, _, rfl, _, _, rfl, rfl, _, rfl, _, _, _, _, rfl, rfl, SqT.of hc', (rfl : atI (cv (.wheel a b k)) 2 = some (.int b)), by show 2 ≤ sizeLine; decide, fun q nq => go _ _ (sp.trans (same_new nq)) upd_same⟩
      · have e2 : ¬ file = a := fun z => e2 (dI z)
        rw [ring_eq (s0 := r + row) (by rw [if_neg e2])] at go
        refine ⟨_, rfl, _, rfl, _, _, rfl, rfl, ?_⟩
        refine ⟨_, rfl, _, rfl, _, _, _, _, rfl, rfl, SqT.of hc', (rfl : atI (cv (.wheel a b k)) 3 = some (.int k)), _, _, rfl, rfl, _, rfl, _, _, rfl, rfl, .inl ⟨by decide, by decide⟩, _, _, rfl, rfl, two, ?_⟩
        refine ⟨_, rfl, _, rfl, _, _, rfl, rfl, _, rfl, ite2 (fun e3 => ?_) (fun e3 => ?_)⟩
        · rw [if_pos (of_decide_eq_true e3)] at go
          exact ⟨_, rfl, _, _, rfl, rfl, _, rfl, _, _, rfl, rfl, _, rfl, _, _, _, _, rfl, rfl, SqT.of hc', (rfl : atI (cv (.wheel a b k)) 1 = some (.int a)), by show 2 ≤ sizeLine; decide, fun q nq => go _ _ (sp.trans (same_new nq)) upd_same⟩
        · rw [if_neg fun z => e3 (decide_eq_true z)] at go
          exact ⟨_, rfl, _, rfl, _, _, rfl, rfl, _, rfl, _, _, _, _, rfl, rfl, SqT.of hc', (rfl : atI (cv (.wheel a b k)) 2 = some (.int b)), by show 2 ≤ sizeLine; decide, fun q nq => go _ _ (sp.trans (same_new nq)) upd_same⟩

def spMoved : Sp := fun vs H Q _ => ∃ (n r : Int) (ac ap : Addr) (c : Cl) (p : Pl), vs = [.ref ac, .int n, .int r, .ref ap] ∧ OkC n c ∧ H ac = some (.tup (cv c)) ∧ H ap = some (plT p) ∧ InLine n r p ∧ Gives (stepC n r p c) H Q
abbrev st_moved_by : Stmt := top 22
abbrev ps_moved_by : List Str := ["call", "files", "rows", "place"]
abbrev N_moved_by : List Str := ["call", "files", "rows", "place", "row", "file"]
theorem sc_moved_by : FnScope N_moved_by ps_moved_by (defScope st_moved_by) := ⟨rfl, rfl, rfl, by decide +kernel, rfl, by decide +kernel, by decide +kernel⟩
theorem d_moved_by (F : FunAt K mg "moved_by" "moved_by" st_moved_by ps_moved_by) (T : Txt K mg w C aN aF aO eF eO nF nO) (D_on_wheel : Def P w K mg base "on_wheel" 1 spOnWheel) : Def P w K mg base "moved_by" 2 spMoved := by
  refine def_of F sc_moved_by (fun vs H Q E h => ?_) (fun f cdv A outer s H vs Q E hr h => ?_)
  · obtain ⟨_, _, _, _, _, _, rfl, _⟩ := h
    rfl
  obtain ⟨n, r, ac, ap, c, ⟨row, file⟩, rfl, ok, hc, hp, hin, go⟩ := h
  have nd := sc_moved_by.nd
  have hr0 : 0 < r := by
    obtain ⟨h1, h2, _⟩ := hin
    exact Int.lt_of_le_of_lt h1 h2
  refine ⟨_, (pss_cons (ps_asg (pv 3) (pg_tup rfl (pgs_cons (pg_name (i := 4) nd rfl (Or.inl rfl)) (pgs_cons (pg_name (i := 5) nd rfl (Or.inl rfl)) pgs_nil))))
    (pss_cons (ps_if (pt_cmpR op_eq (pe_ix ix_tup (pv 0) pe_int (fun _ _ => rfl)) pe_str (nomark _))
    (pss_one (ps_ret (pe_tup (pa_cons (pe_op op_mod (pe_op op_sub (pv 4) (pe_ix ix_tup (pv 0) pe_int (fun _ _ => rfl))) (pv 2)) (pa_cons (pv 5) pa_nil)))))
    pss_nil)
    (pss_cons (ps_if (pt_cmpR op_eq (pe_ix ix_tup (pv 0) pe_int (fun _ _ => rfl)) pe_str (nomark _))
    (pss_one (ps_ret (pe_ifExp (pt_cmpR op_eq (pv 5) (pe_ix ix_tup (pv 0) pe_int (fun _ _ => rfl)) (nomark _)) (pe_tup (pa_cons (pe_op op_mod (pe_op op_sub (pv 4) (pe_ix ix_tup (pv 0) pe_int (fun _ _ => rfl))) (pv 2)) (pa_cons (pv 5) pa_nil))) (pv 3))))
    pss_nil)
    (pss_cons (ps_if (pt_cmpR op_eq (pe_ix ix_tup (pv 0) pe_int (fun _ _ => rfl)) pe_str (nomark _))
    (pss_one (ps_ret (pe_tup (pa_cons (pe_op op_sub (pe_op op_sub (pv 2) pe_int) (pv 4)) (pa_cons (pe_op op_sub (pe_op op_sub (pv 1) pe_int) (pv 5)) pa_nil)))))
    pss_nil)
    (pss_cons (ps_if (pt_cmpR op_eq (pe_ix ix_tup (pv 0) pe_int (fun _ _ => rfl)) pe_str (nomark _))
    (pss_one (ps_ret (pe_callD D_on_wheel (hr.mono (by decide)) (by rfl) (pa_cons (pv 0) (pa_cons (pv 2) (pa_cons (pv 3) pa_nil))))))
    pss_nil)
    (pss_cons (ps_if (pt_cmpR op_in_seq (pe_ix ix_tup (pv 0) pe_int (fun _ _ => rfl)) (pe_tup (pa_cons pe_str (pa_cons pe_str pa_nil))) (by rfl))
    (pss_cons (ps_if (PW.pt (pw_or (pt_cmpR op_notIn_seq (pv 5) (pe_slice sl_tup (pv 0) (po_some pe_int) po_none) (by rfl)) (pw_or1 (PW.pt (pw_and (pt_cmpR op_eq (pe_ix ix_tup (pv 0) pe_int (fun _ _ => rfl)) pe_str (nomark _)) (pw_and1 (pt_cmpR op_gt (pv 4) pe_int (nomark _))))))))
      (pss_one (ps_ret (pv 3)))
      pss_nil)
      (pss_one (ps_ret (pe_tup (pa_cons (pv 4) (pa_cons (pe_ifExp (pt_cmpR op_eq (pv 5) (pe_ix ix_tup (pv 0) pe_int (fun _ _ => rfl)) (nomark _)) (pe_ix ix_tup (pv 0) pe_int (fun _ _ => rfl)) (pe_ix ix_tup (pv 0) pe_int (fun _ _ => rfl))) pa_nil))))))
    pss_nil)
    (pss_one ps_never))))))), ?_⟩
  refine ⟨_, rfl, ap, _, rfl, SqT.of hp, rfl, _, _, rfl, _, _, rfl, rfl, ?_⟩
  cases c with
  | all k =>
    refine ⟨_, rfl, _, _, _, _, rfl, rfl, SqT.of hc, (rfl : atI (cv (.all k)) 0 = some (.str "all")), rfl, _, rfl, iteY (by decide +kernel) ?_⟩
    exact ⟨_, rfl, _, rfl, _, _, _, _, rfl, rfl, SqT.of hc, (rfl : atI (cv (.all k)) 1 = some (.int k)), _, _, rfl, rfl, _, rfl, _, _, rfl, rfl, hr0, _, rfl, by show 2 ≤ sizeLine; decide, fun q nq => go _ _ (same_new nq) upd_same⟩
  | up g k =>
    refine ⟨_, rfl, _, _, _, _, rfl, rfl, SqT.of hc, (rfl : atI (cv (.up g k)) 0 = some (.str "up")), rfl, _, rfl, iteN (by decide +kernel) ?_⟩
    refine ⟨_, rfl, _, _, _, _, rfl, rfl, SqT.of hc, (rfl : atI (cv (.up g k)) 0 = some (.str "up")), rfl, _, rfl, iteY (by decide +kernel) ?_⟩
    refine ⟨_, rfl, _, rfl, _, _, _, _, rfl, rfl, SqT.of hc, (rfl : atI (cv (.up g k)) 1 = some (.int g)), rfl, _, rfl, ite2 (fun e => ?_) (fun e => ?_)⟩
    · have e : file = g := V.int.inj (of_decide_eq_true e)
      rw [show stepC n r (row, file) (.up g k) = ((row - k) % r, file) from if_pos e] at go
      exact ⟨_, rfl, _, rfl, _, _, _, _, rfl, rfl, SqT.of hc, (rfl : atI (cv (.up g k)) 2 = some (.int k)), _, _, rfl, rfl, _, rfl, _, _, rfl, rfl, hr0, _, rfl, by show 2 ≤ sizeLine; decide, fun q nq => go _ _ (same_new nq) upd_same⟩
    · have e : ¬ file = g := fun z => e (dI z)
      rw [show stepC n r (row, file) (.up g k) = (row, file) from if_neg e] at go
      exact ⟨_, rfl, go _ _ (Same.refl _) hp⟩
  | about =>
    refine ⟨_, rfl, _, _, _, _, rfl, rfl, SqT.of hc, (rfl : atI (cv (.about)) 0 = some (.str "about")), rfl, _, rfl, iteN (by decide +kernel) ?_⟩
    refine ⟨_, rfl, _, _, _, _, rfl, rfl, SqT.of hc, (rfl : atI (cv (.about)) 0 = some (.str "about")), rfl, _, rfl, iteN (by decide +kernel) ?_⟩
    refine ⟨_, rfl, _, _, _, _, rfl, rfl, SqT.of hc, (rfl : atI (cv (.about)) 0 = some (.str "about")), rfl, _, rfl, iteY (by decide +kernel) ?_⟩
    exact ⟨_, rfl, _, _, rfl, rfl, _, rfl, _, _, rfl, rfl, _, rfl, _, _, rfl, rfl, _, rfl, _, _, rfl, rfl, by show 2 ≤ sizeLine; decide, fun q nq => go _ _ (same_new nq) upd_same⟩
  | wheel a b k =>
    refine ⟨_, rfl, _, _, _, _, rfl, rfl, SqT.of hc, (rfl : atI (cv (.wheel a b k)) 0 = some (.str "wheel")), rfl, _, rfl, iteN (by decide +kernel) ?_⟩
    refine ⟨_, rfl, _, _, _, _, rfl, rfl, SqT.of hc, (rfl : atI (cv (.wheel a b k)) 0 = some (.str "wheel")), rfl, _, rfl, iteN (by decide +kernel) ?_⟩
    refine ⟨_, rfl, _, _, _, _, rfl, rfl, SqT.of hc, (rfl : atI (cv (.wheel a b k)) 0 = some (.str "wheel")), rfl, _, rfl, iteN (by decide +kernel) ?_⟩
    refine ⟨_, rfl, _, _, _, _, rfl, rfl, SqT.of hc, (rfl : atI (cv (.wheel a b k)) 0 = some (.str "wheel")), rfl, _, rfl, iteY (by decide +kernel) ?_⟩
    exact ⟨_, rfl, _, rfl, _, rfl, n, r, a, b, k, ac, ap, (row, file), rfl, hc, hp, hin, ok.2.2.1, go⟩
  | swap a b =>
    refine ⟨_, rfl, _, _, _, _, rfl, rfl, SqT.of hc, (rfl : atI (cv (.swap a b)) 0 = some (.str "swap")), rfl, _, rfl, iteN (by decide +kernel) ?_⟩
    refine ⟨_, rfl, _, _, _, _, rfl, rfl, SqT.of hc, (rfl : atI (cv (.swap a b)) 0 = some (.str "swap")), rfl, _, rfl, iteN (by decide +kernel) ?_⟩
    refine ⟨_, rfl, _, _, _, _, rfl, rfl, SqT.of hc, (rfl : atI (cv (.swap a b)) 0 = some (.str "swap")), rfl, _, rfl, iteN (by decide +kernel) ?_⟩
    refine ⟨_, rfl, _, _, _, _, rfl, rfl, SqT.of hc, (rfl : atI (cv (.swap a b)) 0 = some (.str "swap")), rfl, _, rfl, iteN (by decide +kernel) ?_⟩
    refine ⟨_, rfl, _, _, _, _, rfl, rfl, SqT.of hc, (rfl : atI (cv (.swap a b)) 0 = some (.str "swap")), by show 2 ≤ sizeLine; decide, fun p1 np1 => ?_⟩
    have s1 := same_new (o := .tup [.str "swap", .str "front"]) np1
    have hc1 := s1 _ _ hc
    have hp1 := s1 _ _ hp
    refine ⟨p1, [.str "swap", .str "front"], rfl, .inr (SqT.of upd_same), rfl, rfl, _, rfl, iteY (c := inV (.str "swap") [.str "swap", .str "front"]) (by decide +kernel) ?_⟩
    refine ⟨_, rfl, _, rfl, _, rfl, ac, _, rfl, SqT.of hc1, (by show ¬ (HT.sIx 3 0 (some 1) = 0 ∧ HT.sIx 3 3 none = 3); decide), fun p2 np2 => ?_⟩
    have s2 := s1.trans (same_new (o := .tup (cutV (cv (.swap a b)) (some 1) none)) np2)
    have hc2 := s2 _ _ hc
    have hp2 := s2 _ _ hp
    refine ⟨p2, [.int a, .int b], rfl, .inr (SqT.of upd_same), rfl, rfl, _, rfl, ite2 (fun e => ?_) (fun e => ?_)⟩
    · have e : (!inV (.int file) [.int a, .int b]) = true := e
      rw [in2, Bool.not_eq_true'] at e
      have e := of_decide_eq_false e
      have cr : crossC a b (row, file) = (row, file) := by
        show (row, if file = a then b else if file = b then a else file) = _
        rw [if_neg fun z => e (.inl z), if_neg fun z => e (.inr z)]
      rw [show stepC n r (row, file) (.swap a b) = (row, file) from cr] at go
      exact iteT ⟨_, rfl, go _ _ s2 hp2⟩
    · have e : ¬ (!inV (.int file) [.int a, .int b]) = true := e
      rw [in2] at e
      have e : file = a ∨ file = b := by
        cases hd : decide (file = a ∨ file = b) with
        | true => exact of_decide_eq_true hd
        | false =>
          rw [hd] at e
          exact absurd rfl e
      have go : Gives (crossC a b (row, file)) H Q := go
      refine ⟨_, rfl, _, _, _, _, rfl, rfl, SqT.of hc2, (rfl : atI (cv (.swap a b)) 0 = some (.str "swap")), rfl, _, rfl, iteN (by decide +kernel) ?_⟩
      refine iteF ?_
      refine ⟨_, rfl, _, rfl, _, rfl, _, _, _, _, rfl, rfl, SqT.of hc2, (rfl : atI (cv (.swap a b)) 1 = some (.int a)), rfl, _, rfl, ite2 (fun e2 => ?_) (fun e2 => ?_)⟩
      · have e2 : file = a := V.int.inj (of_decide_eq_true e2)
        rw [show crossC a b (row, file) = (row, b) from by show (row, if file = a then b else if file = b then a else file) = _; rw [if_pos e2]] at go
        exact ⟨_, rfl, _, _, _, _, rfl, rfl, SqT.of hc2, (rfl : atI (cv (.swap a b)) 2 = some (.int b)), by show 2 ≤ sizeLine; decide, fun q nq => go _ _ (s2.trans (same_new nq)) upd_same⟩
      · have e2 : ¬ file = a := fun z => e2 (dI z)
        have e3 : file = b := e.resolve_left e2
        rw [show crossC a b (row, file) = (row, a) from by show (row, if file = a then b else if file = b then a else file) = _; rw [if_neg e2, if_pos e3]] at go
        exact ⟨_, rfl, _, _, _, _, rfl, rfl, SqT.of hc2, (rfl : atI (cv (.swap a b)) 1 = some (.int a)), by show 2 ≤ sizeLine; decide, fun q nq => go _ _ (s2.trans (same_new nq)) upd_same⟩
  | front a b =>
    refine ⟨_, rfl, _, _, _, _, rfl, rfl, SqT.of hc, (rfl : atI (cv (.front a b)) 0 = some (.str "front")), rfl, _, rfl, iteN (by decide +kernel) ?_⟩
    refine ⟨_, rfl, _, _, _, _, rfl, rfl, SqT.of hc, (rfl : atI (cv (.front a b)) 0 = some (.str "front")), rfl, _, rfl, iteN (by decide +kernel) ?_⟩
    refine ⟨_, rfl, _, _, _, _, rfl, rfl, SqT.of hc, (rfl : atI (cv (.front a b)) 0 = some (.str "front")), rfl, _, rfl, iteN (by decide +kernel) ?_⟩
    refine ⟨_, rfl, _, _, _, _, rfl, rfl, SqT.of hc, (rfl : atI (cv (.front a b)) 0 = some (.str "front")), rfl, _, rfl, iteN (by decide +kernel) ?_⟩
    refine ⟨_, rfl, _, _, _, _, rfl, rfl, SqT.of hc, (rfl : atI (cv (.front a b)) 0 = some (.str "front")), by show 2 ≤ sizeLine; decide, fun p1 np1 => ?_⟩
    have s1 := same_new (o := .tup [.str "swap", .str "front"]) np1
    have hc1 := s1 _ _ hc
    have hp1 := s1 _ _ hp
    refine ⟨p1, [.str "swap", .str "front"], rfl, .inr (SqT.of upd_same), rfl, rfl, _, rfl, iteY (c := inV (.str "front") [.str "swap", .str "front"]) (by decide +kernel) ?_⟩
    refine ⟨_, rfl, _, rfl, _, rfl, ac, _, rfl, SqT.of hc1, (by show ¬ (HT.sIx 3 0 (some 1) = 0 ∧ HT.sIx 3 3 none = 3); decide), fun p2 np2 => ?_⟩
    have s2 := s1.trans (same_new (o := .tup (cutV (cv (.front a b)) (some 1) none)) np2)
    have hc2 := s2 _ _ hc
    have hp2 := s2 _ _ hp
    refine ⟨p2, [.int a, .int b], rfl, .inr (SqT.of upd_same), rfl, rfl, _, rfl, ite2 (fun e => ?_) (fun e => ?_)⟩
    · have e : (!inV (.int file) [.int a, .int b]) = true := e
      rw [in2, Bool.not_eq_true'] at e
      have e := of_decide_eq_false e
      have cr : crossC a b (row, file) = (row, file) := by
        show (row, if file = a then b else if file = b then a else file) = _
        rw [if_neg fun z => e (.inl z), if_neg fun z => e (.inr z)]
      have st : stepC n r (row, file) (.front a b) = (row, file) := by
        show (if row = 0 then crossC a b (row, file) else (row, file)) = _
        rw [cr, ite_self]
      rw [st] at go
      exact iteT ⟨_, rfl, go _ _ s2 hp2⟩
    · have e : ¬ (!inV (.int file) [.int a, .int b]) = true := e
      rw [in2] at e
      have e : file = a ∨ file = b := by
        cases hd : decide (file = a ∨ file = b) with
        | true => exact of_decide_eq_true hd
        | false =>
          rw [hd] at e
          exact absurd rfl e
      refine ⟨_, rfl, _, _, _, _, rfl, rfl, SqT.of hc2, (rfl : atI (cv (.front a b)) 0 = some (.str "front")), rfl, _, rfl, iteY (by decide +kernel) ?_⟩
      refine ⟨_, rfl, _, _, rfl, rfl, _, rfl, ite2 (fun e4 => ?_) (fun e4 => ?_)⟩
      · have e4 : 0 < row := of_decide_eq_true e4
        rw [show stepC n r (row, file) (.front a b) = (row, file) from if_neg (fun z => by have z : row = 0 := z; omega)] at go
        exact ⟨_, rfl, go _ _ s2 hp2⟩
      · have e4 : ¬ 0 < row := fun z => e4 (decide_eq_true z)
        have h0 : 0 ≤ row := hin.1
        have e4 : row = 0 := by omega
        have go : Gives (crossC a b (row, file)) H Q := by
          rw [show stepC n r (row, file) (.front a b) = crossC a b (row, file) from if_pos e4] at go
          exact go
        refine ⟨_, rfl, _, rfl, _, rfl, _, _, _, _, rfl, rfl, SqT.of hc2, (rfl : atI (cv (.front a b)) 1 = some (.int a)), rfl, _, rfl, ite2 (fun e2 => ?_) (fun e2 => ?_)⟩
        · have e2 : file = a := V.int.inj (of_decide_eq_true e2)
          rw [show crossC a b (row, file) = (row, b) from by show (row, if file = a then b else if file = b then a else file) = _; rw [if_pos e2]] at go
          exact ⟨_, rfl, _, _, _, _, rfl, rfl, SqT.of hc2, (rfl : atI (cv (.front a b)) 2 = some (.int b)), by show 2 ≤ sizeLine; decide, fun q nq => go _ _ (s2.trans (same_new nq)) upd_same⟩
        · have e2 : ¬ file = a := fun z => e2 (dI z)
          have e3 : file = b := e.resolve_left e2
          rw [show crossC a b (row, file) = (row, a) from by show (row, if file = a then b else if file = b then a else file) = _; rw [if_neg e2, if_pos e3]] at go
          exact ⟨_, rfl, _, _, _, _, rfl, rfl, SqT.of hc2, (rfl : atI (cv (.front a b)) 1 = some (.int a)), by show 2 ≤ sizeLine; decide, fun q nq => go _ _ (s2.trans (same_new nq)) upd_same⟩
end
end K47

/-! K47P4: is_place, place_of; the class Script; early. -/
namespace K47
open PySem PySem.Spec PyProof.Rows L2
section
variable {P : Program} {w : World} {K : PySem.W.Frag} {mg : Str → Option Value} {base : Heap} {C aN aF aO : Addr} {eF eO : Array DictEntry} {nF nO : Nat}

def spIsPlace : Sp := fun vs H Q _ => ∃ (n r : Int) (ap : Addr) (p : Pl), vs = [.int n, .int r, .ref ap] ∧ H ap = some (plT p) ∧ InLine n r p ∧ Q (.bl true) H
abbrev st_is_place : Stmt := top 24
abbrev ps_is_place : List Str := ["files", "rows", "thing"]
abbrev N_is_place : List Str := ["files", "rows", "thing"]
theorem sc_is_place : FnScope N_is_place ps_is_place (defScope st_is_place) := ⟨rfl, rfl, rfl, by decide +kernel, rfl, by decide +kernel, by decide +kernel⟩
theorem d_is_place (F : FunAt K mg "is_place" "is_place" st_is_place ps_is_place) (T : Txt K mg w C aN aF aO eF eO nF nO) (D_is_index : Def P w K mg base "is_index" 2 spIndex) : Def P w K mg base "is_place" 3 spIsPlace := by
  refine def_of F sc_is_place (fun vs H Q E h => ?_) (fun f cdv A outer s H vs Q E hr h => ?_)
  · obtain ⟨_, _, _, _, rfl, _⟩ := h
    rfl
  obtain ⟨n, r, ap, ⟨row, file⟩, rfl, hp, ⟨h1, h2, h3, h4⟩, k⟩ := h
  have nd := sc_is_place.nd
  refine ⟨_, (pss_cons (ps_if (PW.pt (pw_or (pt_not (pt_val (pe_callB call_isi (by rfl) T.isinstance (by decide +kernel) (pa_cons (pv 2) (pa_cons (pe_bltn (v := .ty "tuple") (u := .type "tuple") (by rfl) T.tuple (by decide +kernel) rfl) pa_nil))))) (pw_or1 (pt_cmpR op_ne (pe_callB call_len_seq (by rfl) T.len PySem.boot_len (pa_cons (pv 2) pa_nil)) pe_int (nomark _)))))
    (pss_one (ps_ret pe_bl))
    pss_nil)
    (pss_one (ps_ret (pe_and (pe_callD D_is_index (hr.mono (by decide)) (by rfl) (pa_cons (pe_ix ix_tup (pv 2) pe_int (fun _ _ => rfl)) (pa_cons (pv 1) pa_nil))) (pe_one (pe_callD D_is_index (hr.mono (by decide)) (by rfl) (pa_cons (pe_ix ix_tup (pv 2) pe_int (fun _ _ => rfl)) (pa_cons (pv 0) pa_nil)))))))), ?_⟩
  refine ⟨_, rfl, _, _, .type "tuple", .type "tuple", true, rfl, .ty _, .base (.tup hp), kit_ty (by decide +kernel), true, rfl, iteF ?_⟩
  refine ⟨_, rfl, _, _, rfl, .inr (SqT.of hp), rfl, _, rfl, iteN rfl ?_⟩
  refine ⟨_, rfl, _, _, _, _, rfl, rfl, SqT.of hp, (rfl : atI [V.int row, V.int file] 0 = some (.int row)), _, rfl, row, r, rfl, _, rfl, iteY (decide_eq_true ⟨h1, h2⟩) ?_⟩
  refine ⟨_, rfl, _, _, _, _, rfl, rfl, SqT.of hp, (rfl : atI [V.int row, V.int file] 1 = some (.int file)), _, rfl, file, n, rfl, ?_⟩
  rw [decide_eq_true ⟨h3, h4⟩]
  exact k
def spPlaceOf : Sp := fun vs H Q _ => ∃ n m : Int, vs = [.int n, .int m] ∧ FilesOk n ∧ Gives (m / n, m % n) H Q
abbrev st_place_of : Stmt := top 25
abbrev ps_place_of : List Str := ["files", "number"]
abbrev N_place_of : List Str := ["files", "number"]
theorem sc_place_of : FnScope N_place_of ps_place_of (defScope st_place_of) := ⟨rfl, rfl, rfl, by decide +kernel, rfl, by decide +kernel, by decide +kernel⟩
theorem d_place_of (F : FunAt K mg "place_of" "place_of" st_place_of ps_place_of) (T : Txt K mg w C aN aF aO eF eO nF nO) : Def P w K mg base "place_of" 1 spPlaceOf := by
  refine def_of F sc_place_of (fun vs H Q E h => ?_) (fun f cdv A outer s H vs Q E hr h => ?_)
  · obtain ⟨_, _, rfl, _⟩ := h
    rfl
  obtain ⟨n, m, rfl, hn, go⟩ := h
  have nd := sc_place_of.nd
  have hn0 : 0 < n ∧ n < 1073741824 := by
    rcases hn with rfl | rfl <;> decide
  refine ⟨_, (pss_one (ps_ret (pe_tup (pa_cons (pe_op op_fdiv (pv 1) (pv 0)) (pa_cons (pe_op op_mod (pv 1) (pv 0)) pa_nil))))), ?_⟩
  exact ⟨_, rfl, _, rfl, _, _, rfl, rfl, hn0, _, rfl, _, rfl, _, _, rfl, rfl, hn0.1, by show 2 ≤ sizeLine; decide, fun p np => go _ _ (same_new np) upd_same⟩

/-! ### Script -/
def spInit (C : Addr) : Sp := fun vs H Q _ => ∃ (x dx l : Addr) (n : Int) (as : List Addr) (cs : List Cl), vs = [.ref x, .int n, .ref l] ∧ FilesOk n ∧ H x = some (.ins C dx []) ∧ H l = some (.lst (refs as)) ∧ CallsAt H as cs ∧ AllOk n cs ∧
  ∀ H', ScriptAt C H' x n as cs → (∀ b o, H b = some o → b ≠ x → H' b = some o) → Q .non H'
abbrev st_Script___init__ : Stmt := inClass (top 31) 0
abbrev ps_Script___init__ : List Str := ["self", "files", "calls"]
abbrev N_Script___init__ : List Str := ["self", "files", "calls", "call"]
theorem sc_Script___init__ : FnScope N_Script___init__ ps_Script___init__ (defScope st_Script___init__) := ⟨rfl, rfl, rfl, by decide +kernel, rfl, by decide +kernel, by decide +kernel⟩
theorem d_init (F : FunM K C "__init__" "Script.__init__" st_Script___init__ ps_Script___init__) (T : Txt K mg w C aN aF aO eF eO nF nO) (D_is_files : Def P w K mg base "is_files" 2 spFiles) (D_is_call : Def P w K mg base "is_call" 3 spCall) :
    DefM P w K mg base C "__init__" 4 (spInit C) := by
  refine defM_of F sc_Script___init__ (fun vs H Q E h => ?_) (fun f cdv A outer s H vs Q E hr h => ?_)
  · obtain ⟨_, _, _, _, _, _, rfl, _⟩ := h
    rfl
  obtain ⟨x, dx, l, n, as, cs, rfl, hn, hx, hl, hcs, ⟨hlen, hok⟩, k⟩ := h
  have nd := sc_Script___init__.nd
  refine ⟨_, (pss_cons (ps_if (pt_not (pt_val (pe_callD D_is_files (hr.mono (by decide)) (by rfl) (pa_cons (pv 1) pa_nil))))
    (pss_one ps_never)
    pss_nil)
    (pss_cons (ps_if (PW.pt (pw_or (pt_not (pt_val (pe_callB call_isiT (by rfl) T.isinstance (by decide +kernel) (pa_cons (pv 2) (pa_cons (pe_tup (pa_cons (pe_bltn (v := .ty "tuple") (u := .type "tuple") (by rfl) T.tuple (by decide +kernel) rfl) (pa_cons (pe_bltn (v := .ty "list") (u := .type "list") (by rfl) T.list (by decide +kernel) rfl) pa_nil))) pa_nil))))) (pw_or1 (pt_not (pt_val (pe_callB (cr_all rfl) (by rfl) T.all (by decide +kernel) (pa_cons (pe_lc (own := [("call", 3)]) (g := gName 3) (tt := tYes) rfl nd (pi_list (pv 2)) (blkOk_by (N := N_Script___init__) (sc := defScope st_Script___init__) (by decide +kernel)) (fun _ _ _ _ _ => pg_name (i := 3) nd rfl (Or.inl rfl)) (fun _ _ _ _ _ => pts_nil) (fun _ _ _ _ _ => (pe_callD D_is_call (hr.mono (by decide)) (by rfl) (pa_cons (pv 1) (pa_cons (pv 3) pa_nil))))) pa_nil)))))))
    (pss_one ps_never)
    pss_nil)
    (pss_cons (ps_fld (pv 0) (pv 1) rfl)
    (pss_one (ps_fld (pv 0) (pe_callTy call_tuple_of (by rfl) T.tuple (by decide +kernel) (pa_cons (pv 2) pa_nil)) rfl))))), ?_⟩
  refine ⟨_, rfl, n, rfl, hn, fun H1 s1 => ⟨true, rfl, iteF ?_⟩⟩
  refine ⟨_, rfl, by show 2 ≤ sizeLine; decide, fun p np => ?_⟩
  refine ⟨_, p, [.ty "tuple", .ty "list"], .type "list", [.type "tuple", .type "list"], true, rfl, upd_same, .cons (.ty _) (.cons (.ty _) .nil), .base (.lst (nx np (s1 _ _ hl))),
    kitAny_cons (kit_ty (r := false) (by decide +kernel)) (fun _ => kitAny_cons (kit_ty (r := true) (by decide +kernel)) (fun z => nomatch z) fun _ => rfl) (fun z => nomatch z), true, rfl, iteF ?_⟩
  have s2 := s1.trans (same_new (o := .tup [.ty "tuple", .ty "list"]) np)
  refine ⟨_, rfl, l, rfl, ⟨_, SqL.of (s2 _ _ hl)⟩, fun D nD => lc_list (K := K) (a := l) (xs := refs as) (fun i H' => Same H H' ∧ H' D = some (.lst (List.replicate i (.bl true))))
    ⟨s2.trans (same_new nD), upd_same⟩ (fun i H' _ g => SqL.of (g.1 _ _ hl)) ?_ ?_⟩
  · rintro i y H' hy ⟨s3, hD⟩
    obtain ⟨a, ha, rfl⟩ : ∃ a, as[i]? = some a ∧ V.ref a = y := by
      rw [List.getElem?_map] at hy
      exact Option.map_eq_some_iff.mp hy
    obtain ⟨c, hc, hac⟩ := paired_get hcs ha
    have hi : i < cs.length := (List.getElem?_eq_some_iff.mp hc).1
    refine ⟨rfl, _, rfl, _, rfl, n, a, c, rfl, hok c (List.mem_of_getElem? hc), s3 _ _ hac, fun H4 s4 => ⟨_, s4 _ _ hD, ?_, ?_, ?_⟩⟩
    · rw [List.length_replicate]
      exact Nat.lt_of_lt_of_le hi (Nat.le_trans hlen (by decide))
    · exact Same.mut (o := .lst (List.replicate i (V.bl true) ++ [V.bl true])) (s3.trans s4) (s2.free nD)
    · rw [upd_same, List.replicate_succ']
  · rintro H3 ⟨s3, hD⟩
    rw [List.length_map] at hD
    have bs : List.replicate as.length (V.bl true) = (List.replicate as.length true).map V.bl := by rw [List.map_replicate]
    rw [bs] at hD
    refine ⟨D, _, rfl, SqL.of hD, true, ?_, iteF ?_⟩
    · rw [show (List.replicate as.length true).all id = true by simp]
    have hx3 := s3 _ _ hx
    have hl3 := s3 _ _ hl
    have lx : l ≠ x := ne_of hl hx (fun z => nomatch z)
    refine ⟨_, rfl, _, rfl, x, C, dx, [], rfl, hx3, T.cl, T.nW, (by show 0 < 1000; decide), ?_⟩
    refine ⟨_, rfl, l, _, rfl, .inl ⟨SqL.of (by rw [upd_ne lx]; exact hl3), fun t nt => ?_⟩⟩
    have tx : t ≠ x := (nxn nt).2
    have nt3 : H3 t = none := (nxn nt).1
    refine ⟨_, rfl, x, C, dx, putF "width" (.int n) [], rfl, ?_, T.cl, T.nS, (by show 1 < 1000; decide), ?_⟩
    · rw [upd_ne tx.symm, upd_same]
    have keep : ∀ b o, H b = some o → b ≠ x → upd (upd (upd H3 x (.ins C dx (putF "width" (.int n) []))) t (.tup (refs as))) x (.ins C dx (sf n t)) b = some o := fun b o e hb => by
      rw [upd_ne hb, upd_ne (ne_of_none (s3 _ _ e) nt3), upd_ne hb]
      exact s3 _ _ e
    refine k _ ⟨dx, t, upd_same, by rw [upd_ne tx, upd_same], L2.Paired.mapP hcs fun a c e => keep _ _ e (ne_of e hx fun z => nomatch z)⟩ keep
/-- a property, a method of a Script -/
def spSFiles (C : Addr) : Sp := fun vs H Q _ => ∃ (x : Addr) (n : Int) (as : List Addr) (cs : List Cl), vs = [.ref x] ∧ ScriptAt C H x n as cs ∧ Q (.int n) H
abbrev st_Script_files : Stmt := inClass (top 31) 4
abbrev ps_Script_files : List Str := ["self"]
abbrev N_Script_files : List Str := ["self"]
theorem sc_Script_files : FnScope N_Script_files ps_Script_files (defScope st_Script_files) := ⟨rfl, rfl, rfl, by decide +kernel, rfl, by decide +kernel, by decide +kernel⟩
theorem d_files (F : FunP K C "files" "Script.files" st_Script_files ps_Script_files) (T : Txt K mg w C aN aF aO eF eO nF nO) : DefP P w K mg base C "files" 1 (spSFiles C) := by
  refine defP_of F sc_Script_files (fun vs H Q E h => ?_) (fun f cdv A outer s H vs Q E hr h => ?_)
  · obtain ⟨_, _, _, _, rfl, _⟩ := h
    rfl
  obtain ⟨x, n, as, cs, rfl, ⟨dx, t, hx, ht, hcs⟩, k⟩ := h
  have nd := sc_Script_files.nd
  refine ⟨_, (pss_one (ps_ret (pe_fld (pv 0) rfl))), ?_⟩
  exact ⟨_, rfl, x, C, dx, _, _, rfl, hx, T.cl, T.nW, sf_width _ _, k⟩
def spSSize (C : Addr) : Sp := fun vs H Q _ => ∃ (x : Addr) (n : Int) (as : List Addr) (cs : List Cl), vs = [.ref x] ∧ ScriptAt C H x n as cs ∧ AllOk n cs ∧ ∀ H', Same H H' → Q (.int (sizeOf cs)) H'
abbrev st_Script_size : Stmt := inClass (top 31) 5
abbrev ps_Script_size : List Str := ["self"]
abbrev N_Script_size : List Str := ["self", "call"]
theorem sc_Script_size : FnScope N_Script_size ps_Script_size (defScope st_Script_size) := ⟨rfl, rfl, rfl, by decide +kernel, rfl, by decide +kernel, by decide +kernel⟩
theorem d_size (F : FunP K C "size" "Script.size" st_Script_size ps_Script_size) (T : Txt K mg w C aN aF aO eF eO nF nO) (D_size_of : Def P w K mg base "size_of" 1 spSizeOf) : DefP P w K mg base C "size" 2 (spSSize C) := by
  refine defP_of F sc_Script_size (fun vs H Q E h => ?_) (fun f cdv A outer s H vs Q E hr h => ?_)
  · obtain ⟨_, _, _, _, rfl, _⟩ := h
    rfl
  obtain ⟨x, n, as, cs, rfl, ⟨dx, t, hx, ht, hcs⟩, ⟨hlen, hok⟩, k⟩ := h
  have nd := sc_Script_size.nd
  refine ⟨_, (pss_one (ps_ret (pe_callB (cr_sum rfl) (by rfl) T.sum (by decide +kernel) (pa_cons (pe_lc (own := [("call", 1)]) (g := gName 1) (tt := tYes) rfl nd (pi_tup (pe_fld (pv 0) rfl)) (blkOk_by (N := N_Script_size) (sc := defScope st_Script_size) (by decide +kernel)) (fun _ _ _ _ _ => pg_name (i := 1) nd rfl (Or.inl rfl)) (fun _ _ _ _ _ => pts_nil) (fun _ _ _ _ _ => (pe_callD D_size_of (hr.mono (by decide)) (by rfl) (pa_cons (pv 1) pa_nil)))) pa_nil)))), ?_⟩
  refine ⟨_, rfl, x, C, dx, _, _, rfl, hx, T.cl, T.nS, sf_steps _ _, t, rfl, ⟨_, SqT.of ht⟩, fun D nD => lc_tup (K := K) (a := t) (xs := refs as) (fun i H' => Same H H' ∧ H' D = some (.lst (intV ((cs.take i).map csize))))
    ⟨same_new nD, upd_same⟩ (fun i H' _ g => SqT.of (g.1 _ _ ht)) ?_ ?_⟩
  · rintro i y H' hy ⟨s3, hD⟩
    obtain ⟨a, ha, rfl⟩ : ∃ a, as[i]? = some a ∧ V.ref a = y := by
      rw [List.getElem?_map] at hy
      exact Option.map_eq_some_iff.mp hy
    obtain ⟨c, hc, hac⟩ := paired_get hcs ha
    have hi : i < cs.length := (List.getElem?_eq_some_iff.mp hc).1
    refine ⟨rfl, _, rfl, a, c, rfl, s3 _ _ hac, _, hD, ?_, ?_, ?_⟩
    · rw [List.length_map, List.length_map, List.length_take]
      exact Nat.lt_of_le_of_lt (Nat.min_le_right _ _) (Nat.lt_of_le_of_lt hlen (by decide))
    · exact Same.mut s3 nD
    · rw [upd_same, List.take_add_one, hc]
      simp
  · rintro H3 ⟨s3, hD⟩
    rw [List.length_map, hcs.length, List.take_length] at hD
    exact ⟨D, _, rfl, SqL.of hD, k _ s3⟩
def spSCalls (C : Addr) : Sp := fun vs H Q _ => ∃ (x : Addr) (n : Int) (as : List Addr) (cs : List Cl), vs = [.ref x] ∧ ScriptAt C H x n as cs ∧ ∀ l H', Same H H' → H l = none → H' l = some (.lst (refs as)) → Q (.ref l) H'
abbrev st_Script_calls : Stmt := inClass (top 31) 6
abbrev ps_Script_calls : List Str := ["self"]
abbrev N_Script_calls : List Str := ["self"]
theorem sc_Script_calls : FnScope N_Script_calls ps_Script_calls (defScope st_Script_calls) := ⟨rfl, rfl, rfl, by decide +kernel, rfl, by decide +kernel, by decide +kernel⟩
theorem d_calls (F : FunM K C "calls" "Script.calls" st_Script_calls ps_Script_calls) (T : Txt K mg w C aN aF aO eF eO nF nO) : DefM P w K mg base C "calls" 1 (spSCalls C) := by
  refine defM_of F sc_Script_calls (fun vs H Q E h => ?_) (fun f cdv A outer s H vs Q E hr h => ?_)
  · obtain ⟨_, _, _, _, rfl, _⟩ := h
    rfl
  obtain ⟨x, n, as, cs, rfl, ⟨dx, t, hx, ht, hcs⟩, k⟩ := h
  have nd := sc_Script_calls.nd
  refine ⟨_, (pss_one (ps_ret (pe_callTy call_list_of (by rfl) T.list (by decide +kernel) (pa_cons (pe_fld (pv 0) rfl) pa_nil)))), ?_⟩
  exact ⟨_, rfl, x, C, dx, _, _, rfl, hx, T.cl, T.nS, sf_steps _ _, t, _, rfl, .inr (SqT.of ht), fun l nl => k l _ (same_new nl) nl upd_same⟩
def spSStraight (C : Addr) : Sp := fun vs H Q _ => ∃ (x : Addr) (n : Int) (as : List Addr) (cs : List Cl), vs = [.ref x] ∧ ScriptAt C H x n as cs ∧ cs.length ≤ 6 ∧ ∀ H', Same H H' → Q (.bl true) H'
abbrev st_Script_is_straight : Stmt := inClass (top 31) 8
abbrev ps_Script_is_straight : List Str := ["self"]
abbrev N_Script_is_straight : List Str := ["self", "call"]
theorem sc_Script_is_straight : FnScope N_Script_is_straight ps_Script_is_straight (defScope st_Script_is_straight) := ⟨rfl, rfl, rfl, by decide +kernel, rfl, by decide +kernel, by decide +kernel⟩
theorem d_s_straight (F : FunM K C "is_straight" "Script.is_straight" st_Script_is_straight ps_Script_is_straight) (T : Txt K mg w C aN aF aO eF eO nF nO) (D_is_straight_calls : Def P w K mg base "is_straight_calls" 1 spStraight) :
    DefM P w K mg base C "is_straight" 2 (spSStraight C) := by
  refine defM_of F sc_Script_is_straight (fun vs H Q E h => ?_) (fun f cdv A outer s H vs Q E hr h => ?_)
  · obtain ⟨_, _, _, _, rfl, _⟩ := h
    rfl
  obtain ⟨x, n, as, cs, rfl, ⟨dx, t, hx, ht, hcs⟩, hlen, k⟩ := h
  have nd := sc_Script_is_straight.nd
  refine ⟨_, (pss_one (ps_ret (pe_callB (cr_all rfl) (by rfl) T.all (by decide +kernel) (pa_cons (pe_lc (own := [("call", 1)]) (g := gName 1) (tt := tYes) rfl nd (pi_tup (pe_fld (pv 0) rfl)) (blkOk_by (N := N_Script_is_straight) (sc := defScope st_Script_is_straight) (by decide +kernel)) (fun _ _ _ _ _ => pg_name (i := 1) nd rfl (Or.inl rfl)) (fun _ _ _ _ _ => pts_nil) (fun _ _ _ _ _ => (pe_callD D_is_straight_calls (hr.mono (by decide)) (by rfl) (pa_cons (pv 1) pa_nil)))) pa_nil)))), ?_⟩
  refine ⟨_, rfl, x, C, dx, _, _, rfl, hx, T.cl, T.nS, sf_steps _ _, t, rfl, ⟨_, SqT.of ht⟩, fun D nD => lc_tup (K := K) (a := t) (xs := refs as) (fun i H' => Same H H' ∧ H' D = some (.lst (List.replicate i (.bl true))))
    ⟨same_new nD, upd_same⟩ (fun i H' _ g => SqT.of (g.1 _ _ ht)) ?_ ?_⟩
  · rintro i y H' hy ⟨s3, hD⟩
    obtain ⟨a, ha, rfl⟩ : ∃ a, as[i]? = some a ∧ V.ref a = y := by
      rw [List.getElem?_map] at hy
      exact Option.map_eq_some_iff.mp hy
    obtain ⟨c, hc, hac⟩ := paired_get hcs ha
    have hi : i < cs.length := (List.getElem?_eq_some_iff.mp hc).1
    refine ⟨rfl, _, rfl, a, c, rfl, s3 _ _ hac, _, hD, ?_, ?_, ?_⟩
    · rw [List.length_replicate]
      exact Nat.lt_of_lt_of_le hi (Nat.le_trans hlen (by decide))
    · exact Same.mut s3 nD
    · rw [upd_same, List.replicate_succ']
  · rintro H3 ⟨s3, hD⟩
    rw [List.length_map] at hD
    have bs : List.replicate as.length (V.bl true) = (List.replicate as.length true).map V.bl := by rw [List.map_replicate]
    rw [bs] at hD
    refine ⟨D, _, rfl, SqL.of hD, ?_⟩
    rw [show (List.replicate as.length true).all id = true by simp]
    exact k _ s3
abbrev st_Script___iter__ : Stmt := inClass (top 31) 3
abbrev ps_Script___iter__ : List Str := ["self"]
abbrev N_Script___iter__ : List Str := ["self"]
theorem sc_Script___iter__ : FnScope N_Script___iter__ ps_Script___iter__ (defScope st_Script___iter__) := ⟨rfl, rfl, rfl, by decide +kernel, rfl, by decide +kernel, by decide +kernel⟩
theorem d_iter (F : FunM K C "__iter__" "Script.__iter__" st_Script___iter__ ["self"]) (T : Txt K mg w C aN aF aO eF eO nF nO) : DefI P w K mg base C "steps" 1 :=
  defI_of F sc_Script___iter__ rfl rfl rfl T.iter T.cl T.nS
def spEarly (C : Addr) : Sp := fun vs H Q _ => ∃ (x : Addr) (n : Int) (as : List Addr) (cs : List Cl), vs = [.ref x] ∧ ScriptAt C H x n as cs ∧ AllOk n cs ∧ ∀ H', Same H H' → Q (.int (4 * sizeOf cs + 3)) H'
abbrev st_early : Stmt := top 29
abbrev ps_early : List Str := ["script"]
abbrev N_early : List Str := ["script"]
theorem sc_early : FnScope N_early ps_early (defScope st_early) := ⟨rfl, rfl, rfl, by decide +kernel, rfl, by decide +kernel, by decide +kernel⟩
theorem d_early (F : FunAt K mg "early" "early" st_early ps_early) (T : Txt K mg w C aN aF aO eF eO nF nO) (D_size : DefP P w K mg base C "size" 2 (spSSize C)) : Def P w K mg base "early" 4 (spEarly C) := by
  refine def_of F sc_early (fun vs H Q E h => ?_) (fun f cdv A outer s H vs Q E hr h => ?_)
  · obtain ⟨_, _, _, _, rfl, _⟩ := h
    rfl
  obtain ⟨x, n, as, cs, rfl, S, ok, k⟩ := h
  have nd := sc_early.nd
  obtain ⟨dx, t, hx, _⟩ := id S
  refine ⟨_, (pss_one (ps_ret (pe_op op_add (pe_op op_mul pe_int (pe_propD (pv 0) T.cl D_size (hr.mono (by decide)))) pe_int))), ?_⟩
  exact ⟨_, rfl, x, dx, _, rfl, hx, x, n, as, cs, rfl, S, ok, fun H1 s1 => ⟨_, _, rfl, rfl, .inl ⟨by decide, by decide⟩, _, _, rfl, rfl, k _ s1⟩⟩
end
end K47

/-! K47P5: passed, moved; alike and what it leans on. -/
namespace K47
open PySem PySem.Spec PyProof.Rows L2
/-- where a def with a star parameter alone stands -/
def FunStar (K : PySem.W.Frag) (mg : Str → Option Value) (g : Str) (st : Stmt) (pv : Str) : Prop :=
  ∃ (f : Addr) (oc : Value) (od : Option Addr) (kV doc pm : Value) (an : Option Addr) (cdv ct : Value) (osl : Array (Option Value)),
    K.lookup f = some ⟨oc, od, .func (PySem.W.fnOf g g (defArgs st) (defBody st) (defScope st) .none kV doc pm an cdv ct), osl⟩ ∧ PySem.W.codeIn K cdv g = true ∧ PySem.W.keepIn K (.ref f) = true ∧ mg g = some (.ref f) ∧
    ∀ rest : List Value, bindArgs (PySem.W.fnOf g g (defArgs st) (defBody st) (defScope st) .none kV doc pm an cdv ct) ⟨rest, []⟩ = (newTuple rest >>= fun t => pure [(pv, t)])
theorem pl_ne {p q : Pl} {K : PySem.W.Frag} {H : Hp} {a b : Addr} (ha : H a = some (plT p)) (hb : H b = some (plT q)) :
    Dp K H (.ref a) (.tuple [.int p.1, .int p.2]) ∧ Dp K H (.ref b) (.tuple [.int q.1, .int q.2]) :=
  ⟨.tup (SqT.of ha) (.cons (.int _) (.cons (.int _) .nil)), .tup (SqT.of hb) (.cons (.int _) (.cons (.int _) .nil))⟩
theorem pl_shaped (p : Pl) : SeqAt.shaped (.tuple [.int p.1, .int p.2]) = true := by rfl
theorem pl_eqv (p q : Pl) : PyData.eqv (.tuple [.int p.1, .int p.2]) (.tuple [.int q.1, .int q.2]) = decide (p = q) := by
  show (p.1 == q.1 && (p.2 == q.2 && true)) = _
  obtain ⟨a, b⟩ := p
  obtain ⟨c, d⟩ := q
  rw [Bool.and_true, Bool.eq_iff_iff, Bool.and_eq_true, beq_iff_eq, beq_iff_eq, decide_eq_true_iff]
  exact ⟨fun h => Prod.ext h.1 h.2, fun h => ⟨congrArg Prod.fst h, congrArg Prod.snd h⟩⟩
section
variable {P : Program} {w : World} {K : PySem.W.Frag} {mg : Str → Option Value} {base : Heap} {C aN aF aO : Addr} {eF eO : Array DictEntry} {nF nO : Nat}

def spPassed (C : Addr) : Sp := fun vs H Q _ => ∃ (x ap : Addr) (n r : Int) (as : List Addr) (cs : List Cl) (p : Pl), vs = [.ref x, .int r, .ref ap] ∧ ScriptAt C H x n as cs ∧ AllOk n cs ∧ H ap = some (plT p) ∧ InLine n r p ∧
  ∀ (L q : Addr) (ps : List Addr) (H' : Hp), Same H H' → H' L = some (.lst (refs ps ++ [.ref q])) → H' q = some (plT (runC n r cs p)) → Q (.ref L) H'
abbrev st_passed : Stmt := top 26
abbrev ps_passed : List Str := ["script", "rows", "place"]
abbrev N_passed : List Str := ["script", "rows", "place", "found", "call"]
theorem sc_passed : FnScope N_passed ps_passed (defScope st_passed) := ⟨rfl, rfl, rfl, by decide +kernel, rfl, by decide +kernel, by decide +kernel⟩
theorem d_passed (F : FunAt K mg "passed" "passed" st_passed ps_passed) (T : Txt K mg w C aN aF aO eF eO nF nO) (D_is_place : Def P w K mg base "is_place" 3 spIsPlace) (D_files : DefP P w K mg base C "files" 1 (spSFiles C)) (D_iter : DefI P w K mg base C "steps" 1)
    (D_moved_by : Def P w K mg base "moved_by" 2 spMoved) : Def P w K mg base "passed" 4 (spPassed C) := by
  refine def_of F sc_passed (fun vs H Q E h => ?_) (fun f cdv A outer s H vs Q E hr h => ?_)
  · obtain ⟨_, _, _, _, _, _, _, rfl, _⟩ := h
    rfl
  obtain ⟨x, ap, n, r, as, cs, p, rfl, S, ⟨hlen, hok⟩, hp, hin, k⟩ := h
  have nd := sc_passed.nd
  obtain ⟨dx, t, hx, ht, hcs⟩ := id S
  refine ⟨_, (pss_cons (ps_if (pt_not (pt_val (pe_callD D_is_place (hr.mono (by decide)) (by rfl) (pa_cons (pe_propD (pv 0) T.cl D_files (hr.mono (by decide))) (pa_cons (pv 1) (pa_cons (pv 2) pa_nil))))))
    (pss_one ps_never)
    pss_nil)
    (pss_cons (ps_set (i := 3) nd rfl (Or.inl rfl) (pe_lst (pa_cons (pv 2) pa_nil)))
    (pss_cons (ps_for PassesOwn.never rfl (pi_own D_iter (hr.mono (by decide)) (pv 0)) (pg_name (i := 4) nd rfl (Or.inl rfl))
    (pss_one (ps_expr (pe_bm PySem.F.plainAttrs_list PySem.F.slot_list_append PySem.F.type_list_append mt_append (pv 3) (pa_cons (pe_callD D_moved_by (hr.mono (by decide)) (by rfl) (pa_cons (pv 4) (pa_cons (pe_propD (pv 0) T.cl D_files (hr.mono (by decide))) (pa_cons (pv 1) (pa_cons (pe_ix ix_list (pv 3) (pe_un un_neg pe_int) (fun _ _ => rfl)) pa_nil))))) pa_nil)))))
    (pss_one (ps_ret (pv 3)))))), ?_⟩
  refine ⟨_, rfl, x, dx, _, rfl, hx, x, n, as, cs, rfl, S, _, rfl, _, rfl, n, r, ap, p, rfl, hp, hin, true, rfl, iteF ?_⟩
  refine ⟨_, rfl, by show 1 ≤ sizeLine; decide, fun L nL => ?_⟩
  refine ⟨_, rfl, x, dx, _, t, _, rfl, nx nL hx, sf_steps _ _, SqT.of (nx nL ht), for_tup (K := K) (a := t) (xs := refs as)
    (fun i σ H' => ∃ (z : Option V) (ps : List Addr) (q : Addr), σ = [some (.ref x), some (.int r), some (.ref ap), some (.ref L), z] ∧ Same H H' ∧ H' L = some (.lst (refs ps ++ [.ref q])) ∧ ps.length ≤ i ∧ H' q = some (plT (runC n r (cs.take i) p)))
    ⟨none, [], ap, rfl, same_new nL, upd_same, Nat.le_refl _, nx nL hp⟩ (fun i σ H' _ ⟨_, _, _, _, s1, _⟩ => SqT.of (s1 _ _ ht)) ?_ ?_⟩
  · rintro i y σ H' hy ⟨z, ps, q, rfl, s1, hL, hl, hq⟩
    obtain ⟨a, ha, rfl⟩ : ∃ a, as[i]? = some a ∧ V.ref a = y := by
      rw [List.getElem?_map] at hy
      exact Option.map_eq_some_iff.mp hy
    obtain ⟨c, hc, hac⟩ := paired_get hcs ha
    have hi : i < cs.length := (List.getElem?_eq_some_iff.mp hc).1
    have hq_in : InLine n r (runC n r (cs.take i) p) := run_in hin fun d hd => hok d (List.mem_of_mem_take hd)
    refine ⟨_, rfl, .inl ⟨rfl, _, SqL.of hL⟩, _, rfl, _, rfl, x, dx, _, rfl, s1 _ _ hx, x, n, as, cs, rfl, S.mono s1, _, rfl, _, rfl, _, rfl, L, _, _, _, rfl, rfl, SqL.of hL, atI_last _ _, ?_⟩
    refine ⟨n, r, a, q, c, _, rfl, hok c (List.mem_of_getElem? hc), s1 _ _ hac, hq, hq_in, fun q' H4 s4 hq' => ?_⟩
    have hL4 := s4 _ _ hL
    have qL : q' ≠ L := ne_of hq' hL4 (fun z => nomatch z)
    refine ⟨L, _, _, rfl, rfl, hL4, ?_, ?_⟩
    · rw [List.length_append, List.length_map, List.length_singleton]
      have : sizeLine = 16777216 := sizeLine_eq
      omega
    · refine ⟨_, ps ++ [q], q', rfl, Same.mut (s1.trans s4) nL, ?_, ?_, ?_⟩
      · rw [upd_same, show refs (ps ++ [q]) = refs ps ++ [V.ref q] from List.map_append]
      · rw [List.length_append, List.length_singleton]
        omega
      · rw [upd_ne qL, hq', List.take_add_one, hc]
        show _ = some (plT (runC n r (List.take i cs ++ [c]) p))
        rw [run_snoc]
  · rintro σ H' ⟨z, ps, q, rfl, s1, hL, hl, hq⟩
    rw [List.length_map, hcs.length, List.take_length] at hq
    exact ⟨_, rfl, k L q ps H' s1 hL hq⟩
def spMovedS (C : Addr) : Sp := fun vs H Q _ => ∃ (x ap : Addr) (n r : Int) (as : List Addr) (cs : List Cl) (p : Pl), vs = [.ref x, .int r, .ref ap] ∧ ScriptAt C H x n as cs ∧ AllOk n cs ∧ H ap = some (plT p) ∧ InLine n r p ∧ Gives (runC n r cs p) H Q
abbrev st_moved : Stmt := top 27
abbrev ps_moved : List Str := ["script", "rows", "place"]
abbrev N_moved : List Str := ["script", "rows", "place"]
theorem sc_moved : FnScope N_moved ps_moved (defScope st_moved) := ⟨rfl, rfl, rfl, by decide +kernel, rfl, by decide +kernel, by decide +kernel⟩
theorem d_moved (F : FunAt K mg "moved" "moved" st_moved ps_moved) (T : Txt K mg w C aN aF aO eF eO nF nO) (D_passed : Def P w K mg base "passed" 4 (spPassed C)) : Def P w K mg base "moved" 5 (spMovedS C) := by
  refine def_of F sc_moved (fun vs H Q E h => ?_) (fun f cdv A outer s H vs Q E hr h => ?_)
  · obtain ⟨_, _, _, _, _, _, _, rfl, _⟩ := h
    rfl
  obtain ⟨x, ap, n, r, as, cs, p, rfl, S, ok, hp, hin, go⟩ := h
  have nd := sc_moved.nd
  refine ⟨_, (pss_one (ps_ret (pe_ix ix_list (pe_callD D_passed (hr.mono (by decide)) (by rfl) (pa_cons (pv 0) (pa_cons (pv 1) (pa_cons (pv 2) pa_nil)))) (pe_un un_neg pe_int) (fun _ _ => rfl)))), ?_⟩
  exact ⟨_, rfl, _, rfl, _, rfl, x, ap, n, r, as, cs, p, rfl, S, ok, hp, hin, fun L q ps H' s1 hL hq => ⟨_, rfl, L, _, _, _, rfl, rfl, SqL.of hL, atI_last _ _, go q H' s1 hq⟩⟩

/-! ### two scripts -/
/-- two Scripts of as many files -/
def Two (C : Addr) (H : Hp) (x y : Addr) (n : Int) (as bs : List Addr) (cs ds : List Cl) : Prop := ScriptAt C H x n as cs ∧ ScriptAt C H y n bs ds ∧ FilesOk n ∧ AllOk n cs ∧ AllOk n ds
theorem Two.mono {C : Addr} {H H' : Hp} {x y : Addr} {n : Int} {as bs : List Addr} {cs ds : List Cl} (e : Same H H') (h : Two C H x y n as bs cs ds) : Two C H' x y n as bs cs ds := ⟨h.1.mono e, h.2.1.mono e, h.2.2⟩
def spNeedSame (C : Addr) : Sp := fun vs H Q _ => ∃ (x y : Addr) (n : Int) (as bs : List Addr) (cs ds : List Cl), vs = [.ref x, .ref y] ∧ Two C H x y n as bs cs ds ∧ Q .non H
abbrev st_need_same_files : Stmt := top 33
abbrev ps_need_same_files : List Str := ["one", "other"]
abbrev N_need_same_files : List Str := ["one", "other"]
theorem sc_need_same_files : FnScope N_need_same_files ps_need_same_files (defScope st_need_same_files) := ⟨rfl, rfl, rfl, by decide +kernel, rfl, by decide +kernel, by decide +kernel⟩
theorem d_need_same_files (F : FunAt K mg "need_same_files" "need_same_files" st_need_same_files ps_need_same_files) (T : Txt K mg w C aN aF aO eF eO nF nO) (D_files : DefP P w K mg base C "files" 1 (spSFiles C)) : Def P w K mg base "need_same_files" 3 (spNeedSame C) := by
  refine def_of F sc_need_same_files (fun vs H Q E h => ?_) (fun f cdv A outer s H vs Q E hr h => ?_)
  · obtain ⟨_, _, _, _, _, _, _, rfl, _⟩ := h
    rfl
  obtain ⟨x, y, n, as, bs, cs, ds, rfl, ⟨S1, S2, hn, ok1, ok2⟩, k⟩ := h
  have nd := sc_need_same_files.nd
  obtain ⟨dx, t, hx, _⟩ := id S1
  obtain ⟨dy, u, hy, _⟩ := id S2
  refine ⟨_, (pss_one (ps_if (pt_cmpR op_ne (pe_propD (pv 0) T.cl D_files (hr.mono (by decide))) (pe_propD (pv 1) T.cl D_files (hr.mono (by decide))) (nomark _))
    (pss_one ps_never)
    pss_nil)), ?_⟩
  refine ⟨_, rfl, x, dx, _, rfl, hx, x, n, as, cs, rfl, S1, _, rfl, y, dy, _, rfl, hy, y, n, bs, ds, rfl, S2, rfl, _, rfl, iteN ?_ k⟩
  rw [dI rfl]
  rfl
def spNeedStraight (C : Addr) : Sp := fun vs H Q _ => ∃ xs : List Addr, vs = refs xs ∧ xs.length ≤ 2 ∧ (∀ x ∈ xs, ∃ (n : Int) (as : List Addr) (cs : List Cl), ScriptAt C H x n as cs ∧ cs.length ≤ 6) ∧ ∀ H', Same H H' → Q .non H'
abbrev st_need_straight : Stmt := top 34
abbrev ps_need_straight : List Str := ["scripts"]
abbrev N_need_straight : List Str := ["scripts", "script"]
theorem sc_need_straight : FnScope N_need_straight ps_need_straight (defScope st_need_straight) := ⟨rfl, rfl, rfl, by decide +kernel, rfl, by decide +kernel, by decide +kernel⟩
theorem d_need_straight (F : FunStar K mg "need_straight" st_need_straight "scripts") (T : Txt K mg w C aN aF aO eF eO nF nO) (D_m_is_straight : DefM P w K mg base C "is_straight" 2 (spSStraight C)) : DefS P w K mg base "need_straight" 3 (spNeedStraight C) := by
  obtain ⟨f, oc, od, kV, doc, pm, an, cdv, ct, osl, lk, hcd, kp, hm, hb⟩ := F
  refine ⟨f, hm, kp, ?_⟩
  have R := StX.fn_star (P := P) (w := w) (mg := mg) (base := base) (CX := CX0) (k := 2) (ps := []) (pv := "scripts") (N := N_need_straight) lk hcd sc_need_straight StX.cxUp_none
    (fun us rest e => by
      cases us with
      | nil => exact hb rest
      | cons _ _ => cases e)
    (sp := fun vs H Q _ => ∃ (p : Addr) (xs : List Addr), vs = [.ref p] ∧ H p = some (.tup (refs xs)) ∧ (∀ x ∈ xs, ∃ (n : Int) (as : List Addr) (cs : List Cl), ScriptAt C H x n as cs ∧ cs.length ≤ 6) ∧ ∀ H', Same H H' → Q .non H')
    (fun A outer s H vs Q E hr h => by
      obtain ⟨p, xs, rfl, hp, hS, k⟩ := h
      have nd := sc_need_straight.nd
      have tm : ∃ t, PSs (cxOf CX0 P w K mg base N_need_straight "need_straight" (defScope st_need_straight) f cdv A outer s H E).nox (defBody st_need_straight) t ∧ t { nx := fun _ H' => Q .non H', rt := Q } (start N_need_straight [.ref p]) H := by
        refine ⟨_, (pss_one (ps_for PassesOwn.never rfl (pi_tup (pv 0)) (pg_name (i := 1) nd rfl (Or.inl rfl))
    (pss_one (ps_if (pt_not (pt_val (pe_methD (pv 1) T.cl D_m_is_straight (hr.mono (by decide)))))
      (pss_one ps_never)
      pss_nil)))), ?_⟩
        refine ⟨_, rfl, p, rfl, ⟨_, SqT.of hp⟩, for_tup (K := K) (a := p) (xs := refs xs) (fun i σ H' => ∃ z : Option V, σ = [some (.ref p), z] ∧ Same H H') ⟨none, rfl, Same.refl _⟩ (fun i σ H' _ ⟨_, _, s1⟩ => SqT.of (s1 _ _ hp)) ?_ ?_⟩
        · rintro i y σ H' hy ⟨z, rfl, s1⟩
          obtain ⟨x, hx, rfl⟩ : ∃ x, xs[i]? = some x ∧ V.ref x = y := by
            rw [List.getElem?_map] at hy
            exact Option.map_eq_some_iff.mp hy
          obtain ⟨n, as, cs, S, hl⟩ := hS x (List.mem_of_getElem? hx)
          have S' := S.mono s1
          obtain ⟨dx, t, hxo, _⟩ := id S'
          exact ⟨_, rfl, x, dx, _, rfl, hxo, sf_no _ _ (by decide +kernel) (by decide +kernel), x, n, as, cs, rfl, S', hl, fun H2 s2 => ⟨true, rfl, iteF ⟨_, rfl, s1.trans s2⟩⟩⟩
        · rintro σ H' ⟨z, rfl, s1⟩
          exact k _ s1
      obtain ⟨t, pt, q⟩ := tm
      exact ⟨t, pt.nox, q⟩)
  refine R.imp fun vs H Q E h => ?_
  obtain ⟨xs, rfl, hl, hS, k⟩ := h
  refine ⟨[], refs xs, rfl, rfl, ?_, fun p np => ⟨p, xs, rfl, upd_same, fun x hx => ?_, fun H' s1 => k _ ((same_new np).trans s1)⟩⟩
  · rw [List.length_map]
    exact Nat.le_trans hl (by decide)
  · obtain ⟨n, as, cs, S, h⟩ := hS x hx
    exact ⟨n, as, cs, S.mono (same_new np), h⟩
end
end K47

/-! K47P6: parted_in, parting_to, parting, alike. -/
namespace K47
open PySem PySem.Spec PyProof.Rows L2
/-- the places of a line by their numbers -/
theorem place_in {n r : Int} {j : Nat} (hn : 0 < n) (hj : (j : Int) < r * n) : InLine n r ((j : Int) / n, (j : Int) % n) := by
  have h0 : (0 : Int) ≤ (j : Int) := Int.natCast_nonneg j
  exact ⟨Int.ediv_nonneg h0 (by omega), Int.ediv_lt_of_lt_mul hn hj, Int.emod_nonneg _ (by omega), Int.emod_lt_of_pos _ hn⟩
theorem place_no {n r : Int} {p : Pl} (hn : 0 < n) (h : InLine n r p) : ∃ j : Nat, (j : Int) < r * n ∧ ((j : Int) / n, (j : Int) % n) = p := by
  obtain ⟨row, file⟩ := p
  obtain ⟨h1, h2, h3, h4⟩ := h
  have h1 : 0 ≤ row := h1
  have h2 : row < r := h2
  have h3 : 0 ≤ file := h3
  have h4 : file < n := h4
  have m1 : 0 ≤ row * n := Int.mul_nonneg h1 (by omega)
  have m2 : (row + 1) * n ≤ r * n := Int.mul_le_mul_of_nonneg_right (by omega) (by omega)
  rw [Int.add_mul, Int.one_mul] at m2
  refine ⟨(row * n + file).toNat, by omega, ?_⟩
  rw [Int.toNat_of_nonneg (by omega)]
  refine Prod.ext ?_ ?_
  · show (row * n + file) / n = row
    rw [Int.add_comm, Int.add_mul_ediv_right _ _ (by omega), Int.ediv_eq_zero_of_lt h3 h4, Int.zero_add]
  · show (row * n + file) % n = file
    rw [Int.add_comm, Int.add_mul_emod_self_right, Int.emod_eq_of_lt h3 h4]
section
variable {P : Program} {w : World} {K : PySem.W.Frag} {mg : Str → Option Value} {base : Heap} {C aN aF aO : Addr} {eF eO : Array DictEntry} {nF nO : Nat}
/-- hands back None just if p -/
def NoneIf (p : Prop) (H : Hp) (Q : VK) : Prop := ∀ v H', Same H H' → (v = V.non ↔ p) → Q v H'
def spPartedIn (C : Addr) : Sp := fun vs H Q _ => ∃ (x y : Addr) (n r : Int) (as bs : List Addr) (cs ds : List Cl), vs = [.ref x, .ref y, .int r] ∧ Two C H x y n as bs cs ds ∧ RowsOk r ∧ NoneIf (SameLine n cs ds r) H Q
abbrev st_parted_in : Stmt := top 35
abbrev ps_parted_in : List Str := ["one", "other", "rows"]
abbrev N_parted_in : List Str := ["one", "other", "rows", "number", "place"]
theorem sc_parted_in : FnScope N_parted_in ps_parted_in (defScope st_parted_in) := ⟨rfl, rfl, rfl, by decide +kernel, rfl, by decide +kernel, by decide +kernel⟩
theorem d_parted_in (F : FunAt K mg "parted_in" "parted_in" st_parted_in ps_parted_in) (T : Txt K mg w C aN aF aO eF eO nF nO) (D_files : DefP P w K mg base C "files" 1 (spSFiles C)) (D_place_of : Def P w K mg base "place_of" 1 spPlaceOf)
    (D_moved : Def P w K mg base "moved" 5 (spMovedS C)) : Def P w K mg base "parted_in" 6 (spPartedIn C) := by
  refine def_of F sc_parted_in (fun vs H Q E h => ?_) (fun f cdv A outer s H vs Q E hr h => ?_)
  · obtain ⟨_, _, _, _, _, _, _, _, rfl, _⟩ := h
    rfl
  obtain ⟨x, y, n, r, as, bs, cs, ds, rfl, W, ⟨r1, r2⟩, go⟩ := h
  have nd := sc_parted_in.nd
  obtain ⟨⟨dx, t, hx, _⟩, _, hn, _⟩ := id W
  have hn0 : 0 < n ∧ n ≤ 3 := by
    rcases hn with rfl | rfl <;> decide
  have m1 : 0 ≤ r * n := Int.mul_nonneg (by omega) (by omega)
  have m2 : r * n ≤ 1000 * 3 := Int.mul_le_mul r2 hn0.2 (by omega) (by omega)
  refine ⟨_, (pss_cons (ps_for PassesOwn.never rfl (pi_range1 rfl T.range (pa_cons (pe_op op_mul (pv 2) (pe_propD (pv 0) T.cl D_files (hr.mono (by decide)))) pa_nil)) (pg_name (i := 3) nd rfl (Or.inl rfl))
    (pss_cons (ps_set (i := 4) nd rfl (Or.inl rfl) (pe_callD D_place_of (hr.mono (by decide)) (by rfl) (pa_cons (pe_propD (pv 0) T.cl D_files (hr.mono (by decide))) (pa_cons (pv 3) pa_nil))))
      (pss_one (ps_if (pt_cmpR (op_neD hr.units) (pe_callD D_moved (hr.mono (by decide)) (by rfl) (pa_cons (pv 0) (pa_cons (pv 2) (pa_cons (pv 4) pa_nil)))) (pe_callD D_moved (hr.mono (by decide)) (by rfl) (pa_cons (pv 1) (pa_cons (pv 2) (pa_cons (pv 4) pa_nil)))) (nomark _))
      (pss_one (ps_ret (pv 4)))
      pss_nil))))
    (pss_one (ps_ret pe_non))), ?_⟩
  refine ⟨_, rfl, _, rfl, x, dx, _, rfl, hx, x, n, as, cs, rfl, W.1, _, _, rfl, rfl, .inl ⟨by omega, by omega⟩, _, rfl, by omega, by omega, for_range (lo := 0) (n := (r * n).toNat)
    (fun i σ H' => ∃ z1 z2 : Option V, σ = [some (.ref x), some (.ref y), some (.int r), z1, z2] ∧ Same H H' ∧ ∀ j : Nat, j < i → SameAt n cs ds r ((j : Int) / n, (j : Int) % n)) ⟨none, none, rfl, Same.refl _, fun j z => absurd z (Nat.not_lt_zero _)⟩ ?_ ?_⟩
  · rintro i σ H1 hi ⟨z1, z2, rfl, s1, hj⟩
    have hin : InLine n r ((i : Int) / n, (i : Int) % n) := place_in hn0.1 (by omega)
    have W1 := W.mono s1
    refine ⟨_, rfl, x, dx, _, rfl, s1 _ _ hx, x, n, as, cs, rfl, W1.1, _, rfl, n, (i : Int), congrArg (fun z => [V.int n, V.int z]) (Int.zero_add _), hn, fun ap H2 s2 hp => ?_⟩
    have W2 := W1.mono s2
    refine ⟨_, rfl, _, rfl, _, rfl, x, ap, n, r, as, cs, _, rfl, W2.1, W2.2.2.2.1, hp, hin, fun q1 H3 s3 h1 => ?_⟩
    have W3 := W2.mono s3
    refine ⟨_, rfl, _, rfl, _, rfl, y, ap, n, r, bs, ds, _, rfl, W3.2.1, W3.2.2.2.2, s3 _ _ hp, hin, fun q2 H4 s4 h2 => ?_⟩
    obtain ⟨e1, e2⟩ := pl_ne (K := K) (s4 _ _ h1) h2
    refine ⟨_, _, e1, e2, pl_shaped _, pl_shaped _, _, rfl, ?_⟩
    rw [pl_eqv]
    have s5 := s1.trans (s2.trans (s3.trans s4))
    refine ite2 (fun e => ?_) (fun e => ?_)
    · have e : ¬ SameAt n cs ds r ((i : Int) / n, (i : Int) % n) := by
        rw [Bool.not_eq_true'] at e
        exact of_decide_eq_false e
      exact ⟨_, rfl, go _ _ s5 ⟨fun z => (nomatch z), fun a => absurd (a _ hin) e⟩⟩
    · have e : SameAt n cs ds r ((i : Int) / n, (i : Int) % n) := by
        refine Classical.byContradiction fun z => e ?_
        rw [Bool.not_eq_true']
        exact decide_eq_false z
      refine ⟨_, _, rfl, s5, fun j hj' => ?_⟩
      rcases Nat.lt_succ_iff_lt_or_eq.mp hj' with h | h
      · exact hj j h
      · subst h
        exact e
  · rintro σ H1 ⟨z1, z2, rfl, s1, hj⟩
    refine go _ _ s1 ⟨fun _ p hp => ?_, fun _ => rfl⟩
    obtain ⟨j, h1, rfl⟩ := place_no hn0.1 hp
    exact hj j (by omega)
def spPartingTo (C : Addr) : Sp := fun vs H Q _ => ∃ (x y : Addr) (n m : Int) (as bs : List Addr) (cs ds : List Cl), vs = [.ref x, .ref y, .int m] ∧ Two C H x y n as bs cs ds ∧ 0 ≤ m ∧ m ≤ 1000 ∧ NoneIf (SameTo n cs ds m) H Q
abbrev st_parting_to : Stmt := top 36
abbrev ps_parting_to : List Str := ["one", "other", "most"]
abbrev N_parting_to : List Str := ["one", "other", "most", "rows", "place"]
theorem sc_parting_to : FnScope N_parting_to ps_parting_to (defScope st_parting_to) := ⟨rfl, rfl, rfl, by decide +kernel, rfl, by decide +kernel, by decide +kernel⟩
theorem d_parting_to (F : FunAt K mg "parting_to" "parting_to" st_parting_to ps_parting_to) (T : Txt K mg w C aN aF aO eF eO nF nO) (D_need_same_files : Def P w K mg base "need_same_files" 3 (spNeedSame C))
    (D_parted_in : Def P w K mg base "parted_in" 6 (spPartedIn C)) : Def P w K mg base "parting_to" 7 (spPartingTo C) := by
  refine def_of F sc_parting_to (fun vs H Q E h => ?_) (fun f cdv A outer s H vs Q E hr h => ?_)
  · obtain ⟨_, _, _, _, _, _, _, _, rfl, _⟩ := h
    rfl
  obtain ⟨x, y, n, m, as, bs, cs, ds, rfl, W, m0, m1, go⟩ := h
  have nd := sc_parting_to.nd
  refine ⟨_, (pss_cons (ps_expr (pe_callD D_need_same_files (hr.mono (by decide)) (by rfl) (pa_cons (pv 0) (pa_cons (pv 1) pa_nil))))
    (pss_cons (ps_for PassesOwn.never rfl (pi_range2 rfl T.range (pa_cons pe_int (pa_cons (pe_op op_add (pv 2) pe_int) pa_nil))) (pg_name (i := 3) nd rfl (Or.inl rfl))
    (pss_cons (ps_set (i := 4) nd rfl (Or.inl rfl) (pe_callD D_parted_in (hr.mono (by decide)) (by rfl) (pa_cons (pv 0) (pa_cons (pv 1) (pa_cons (pv 3) pa_nil)))))
      (pss_one (ps_if (pt_cmpR op_notN (pv 4) pe_non (nomark _))
      (pss_one (ps_ret (pe_tup (pa_cons (pv 3) (pa_cons (pv 4) pa_nil)))))
      pss_nil))))
    (pss_one (ps_ret pe_non)))), ?_⟩
  refine ⟨_, rfl, _, rfl, x, y, n, as, bs, cs, ds, rfl, W, ?_⟩
  refine ⟨_, rfl, _, _, rfl, rfl, 1, m + 1, rfl, ⟨by omega, by omega, by omega, by omega⟩, for_range (lo := 1) (n := (m + 1 - 1).toNat)
    (fun i σ H' => ∃ z1 z2 : Option V, σ = [some (.ref x), some (.ref y), some (.int m), z1, z2] ∧ Same H H' ∧ ∀ r : Int, 1 ≤ r → r < 1 + (i : Int) → SameLine n cs ds r) ⟨none, none, rfl, Same.refl _, fun r h1 h2 => by omega⟩ ?_ ?_⟩
  · rintro i σ H1 hi ⟨z1, z2, rfl, s1, hj⟩
    have W1 := W.mono s1
    refine ⟨_, rfl, _, rfl, _, rfl, x, y, n, 1 + (i : Int), as, bs, cs, ds, rfl, W1, ⟨by omega, by omega⟩, fun v H2 s2 hv => ?_⟩
    refine ⟨_, rfl, rfl, _, rfl, ite2 (fun e => ?_) (fun e => ?_)⟩
    · have e : ¬ v = V.non := by
        rw [Bool.not_eq_true'] at e
        exact of_decide_eq_false e
      refine ⟨_, rfl, _, rfl, by show 2 ≤ sizeLine; decide, fun p np => go _ _ ((s1.trans s2).trans (same_new np)) ⟨fun z => (nomatch z), fun a => absurd (hv.mpr (a _ (by omega) (by omega))) e⟩⟩
    · have e : v = V.non := by
        refine Classical.byContradiction fun z => e ?_
        rw [Bool.not_eq_true']
        exact decide_eq_false z
      refine ⟨_, _, rfl, s1.trans s2, fun r h1 h2 => ?_⟩
      rcases Int.lt_or_eq_of_le (show r ≤ 1 + (i : Int) by omega) with h | h
      · exact hj r h1 h
      · rw [h]
        exact hv.mp e
  · rintro σ H1 ⟨z1, z2, rfl, s1, hj⟩
    exact go _ _ s1 ⟨fun _ r h1 h2 => hj r h1 (by omega), fun _ => rfl⟩
def spParting (C : Addr) : Sp := fun vs H Q _ => ∃ (x y : Addr) (n : Int) (as bs : List Addr) (cs ds : List Cl), vs = [.ref x, .ref y] ∧ Two C H x y n as bs cs ds ∧ NoneIf (alikeB n cs ds = true) H Q
abbrev st_parting : Stmt := top 37
abbrev ps_parting : List Str := ["one", "other"]
abbrev N_parting : List Str := ["one", "other"]
theorem sc_parting : FnScope N_parting ps_parting (defScope st_parting) := ⟨rfl, rfl, rfl, by decide +kernel, rfl, by decide +kernel, by decide +kernel⟩
theorem d_parting (F : FunAt K mg "parting" "parting" st_parting ps_parting) (T : Txt K mg w C aN aF aO eF eO nF nO) (D_need_same_files : Def P w K mg base "need_same_files" 3 (spNeedSame C)) (D_need_straight : DefS P w K mg base "need_straight" 3 (spNeedStraight C))
    (D_early : Def P w K mg base "early" 4 (spEarly C)) (D_parting_to : Def P w K mg base "parting_to" 7 (spPartingTo C)) : Def P w K mg base "parting" 8 (spParting C) := by
  refine def_of F sc_parting (fun vs H Q E h => ?_) (fun f cdv A outer s H vs Q E hr h => ?_)
  · obtain ⟨_, _, _, _, _, _, _, rfl, _⟩ := h
    rfl
  obtain ⟨x, y, n, as, bs, cs, ds, rfl, W, go⟩ := h
  have nd := sc_parting.nd
  refine ⟨_, (pss_cons (ps_expr (pe_callD D_need_same_files (hr.mono (by decide)) (by rfl) (pa_cons (pv 0) (pa_cons (pv 1) pa_nil))))
    (pss_cons (ps_expr (pe_callDS D_need_straight (hr.mono (by decide)) (by rfl) (pa_cons (pv 0) (pa_cons (pv 1) pa_nil))))
    (pss_one (ps_ret (pe_callD D_parting_to (hr.mono (by decide)) (by rfl) (pa_cons (pv 0) (pa_cons (pv 1) (pa_cons (pe_callB (call_max2 rfl) (by rfl) T.max (by decide +kernel) (pa_cons (pe_callD D_early (hr.mono (by decide)) (by rfl) (pa_cons (pv 0) pa_nil)) (pa_cons (pe_callD D_early (hr.mono (by decide)) (by rfl) (pa_cons (pv 1) pa_nil)) pa_nil))) pa_nil)))))))), ?_⟩
  refine ⟨_, rfl, _, rfl, x, y, n, as, bs, cs, ds, rfl, W, ?_⟩
  refine ⟨_, rfl, _, rfl, [x, y], rfl, Nat.le_refl _, fun z hz => ?_, fun H1 s1 => ?_⟩
  · rcases List.mem_cons.mp hz with e | hz
    · subst e
      exact ⟨n, as, cs, W.1, W.2.2.2.1.1⟩
    · have e : z = y := by simpa using hz
      subst e
      exact ⟨n, bs, ds, W.2.1, W.2.2.2.2.1⟩
  have W1 := W.mono s1
  refine ⟨_, rfl, _, rfl, _, rfl, x, n, as, cs, rfl, W1.1, W1.2.2.2.1, fun H2 s2 => ?_⟩
  have W2 := W1.mono s2
  refine ⟨_, rfl, y, n, bs, ds, rfl, W2.2.1, W2.2.2.2.2, fun H3 s3 => ?_⟩
  have W3 := W2.mono s3
  have l1 := sizeOf_le W.2.2.2.1.2
  have l2 := sizeOf_le W.2.2.2.2.2
  have k1 := W.2.2.2.1.1
  have k2 := W.2.2.2.2.1
  have em : (if 4 * sizeOf ds + 3 > 4 * sizeOf cs + 3 then 4 * sizeOf ds + 3 else 4 * sizeOf cs + 3) = 4 * max (sizeOf cs) (sizeOf ds) + 3 := by
    rw [Int.max_def]
    split <;> split <;> omega
  have hm : 0 ≤ max (sizeOf cs) (sizeOf ds) ∧ max (sizeOf cs) (sizeOf ds) ≤ 72 := by
    rw [Int.max_def]
    split <;> omega
  refine ⟨_, _, rfl, x, y, n, _, as, bs, cs, ds, congrArg (fun z => [V.ref x, V.ref y, V.int z]) em, W3, by omega, by omega, fun v H4 s4 hv => go v H4 (s1.trans (s2.trans (s3.trans s4))) ?_⟩
  rw [hv]
  unfold alikeB
  exact (@decide_eq_true_iff _ (Classical.propDecidable _)).symm
def spAlike (C : Addr) : Sp := fun vs H Q _ => ∃ (x y : Addr) (n : Int) (as bs : List Addr) (cs ds : List Cl), vs = [.ref x, .ref y] ∧ Two C H x y n as bs cs ds ∧ ∀ H', Same H H' → Q (.bl (alikeB n cs ds)) H'
abbrev st_alike : Stmt := top 38
abbrev ps_alike : List Str := ["one", "other"]
abbrev N_alike : List Str := ["one", "other"]
theorem sc_alike : FnScope N_alike ps_alike (defScope st_alike) := ⟨rfl, rfl, rfl, by decide +kernel, rfl, by decide +kernel, by decide +kernel⟩
theorem d_alike (F : FunAt K mg "alike" "alike" st_alike ps_alike) (T : Txt K mg w C aN aF aO eF eO nF nO) (D_parting : Def P w K mg base "parting" 8 (spParting C)) : Def P w K mg base "alike" 9 (spAlike C) := by
  refine def_of F sc_alike (fun vs H Q E h => ?_) (fun f cdv A outer s H vs Q E hr h => ?_)
  · obtain ⟨_, _, _, _, _, _, _, rfl, _⟩ := h
    rfl
  obtain ⟨x, y, n, as, bs, cs, ds, rfl, W, k⟩ := h
  have nd := sc_alike.nd
  refine ⟨_, (pss_one (ps_ret (pe_cmpR op_isN (pe_callD D_parting (hr.mono (by decide)) (by rfl) (pa_cons (pv 0) (pa_cons (pv 1) pa_nil))) pe_non (nomark _)))), ?_⟩
  refine ⟨_, rfl, _, rfl, x, y, n, as, bs, cs, ds, rfl, W, fun v H1 s1 hv => ⟨rfl, ?_⟩⟩
  have e : decide (v = V.non) = alikeB n cs ds := by
    rw [Bool.eq_iff_iff, decide_eq_true_iff]
    exact hv
  show Q (.bl (decide (v = V.non))) H1
  rw [e]
  exact k H1 s1
end
end K47

/-! K47P7: choices_of, kept. -/
namespace K47
open PySem PySem.Spec PyProof.Rows L2
/-- lists of indexes at ps -/
def ListsAt (H : Hp) (ps : List Addr) (jss : List (List Nat)) : Prop := Paired (fun p js => H p = some (.lst (natV js))) ps jss
theorem ListsAt.mono {H H' : Hp} {ps : List Addr} {jss : List (List Nat)} (e : Same H H') (h : ListsAt H ps jss) : ListsAt H' ps jss := L2.Paired.mapP h fun a c q => e _ _ q
theorem paired_memL {α β : Type} {F G : α → β → Prop} : ∀ {l : List α} {m : List β}, Paired F l m → (∀ a b, a ∈ l → F a b → G a b) → Paired G l m
  | _, _, .nil, _ => .nil
  | _, _, .cons r t, f => .cons (f _ _ List.mem_cons_self r) (paired_memL t fun a b h => f a b (List.mem_cons_of_mem _ h))
theorem ListsAt.upd {H : Hp} {ps : List Addr} {jss : List (List Nat)} {F : Addr} {o : HO} (h : ListsAt H ps jss) (hf : ∀ p ∈ ps, p ≠ F) : ListsAt (upd H F o) ps jss :=
  paired_memL h fun a b m e => by
    rw [upd_ne (hf a m)]
    exact e
theorem natV_app (js : List Nat) (j : Nat) : natV (js ++ [j]) = natV js ++ [V.int (j : Int)] := List.map_append
theorem natV_len (js : List Nat) : (natV js).length = js.length := List.length_map ..
theorem take_map_succ {α β : Type} {f : α → β} {l : List α} {i : Nat} {a : α} (h : l[i]? = some a) : (l.take (i + 1)).map f = (l.take i).map f ++ [f a] := by
  rw [List.take_add_one, h]
  simp
theorem range'_get {s n i : Nat} (h : i < n) : (List.range' s n)[i]? = some (s + i) := by
  rw [List.getElem?_range' h, Nat.one_mul]
theorem pow_small {n s : Nat} (hn : n ≤ 6) (hs : s ≤ 6) : n ^ s ≤ 46656 :=
  Nat.le_trans (Nat.pow_le_pow_left hn s) (Nat.le_trans (Nat.pow_le_pow_right (by decide) hs) (by decide))
theorem flat_take_len (n s i : Nat) (hn : n ≤ 6) (hs : s < 6) : (((choices n s).take i).flatMap (longer n)).length ≤ 46656 := by
  have h1 := flat_len n ((choices n s).take i)
  have h2 : ((choices n s).take i).length ≤ n ^ s := Nat.le_trans (by rw [List.length_take]; exact Nat.min_le_right _ _) (choices_len n s)
  have h3 := Nat.mul_le_mul_right n h2
  have h4 := pow_small hn (show s + 1 ≤ 6 from hs)
  rw [Nat.pow_succ] at h4
  omega
theorem least_app (js : List Nat) (j : Nat) : leastOf (js ++ [j]) = j + 1 := by
  unfold leastOf
  rw [List.getLast?_concat]

section
variable {P : Program} {w : World} {K : PySem.W.Frag} {mg : Str → Option Value} {base : Heap} {C aN aF aO : Addr} {eF eO : Array DictEntry} {nF nO : Nat}
/-- hands back a new list of new lists of indexes -/
def GivesLists (jss : List (List Nat)) (H : Hp) (Q : VK) : Prop := ∀ (l : Addr) (ps : List Addr) (H' : Hp), Same H H' → H l = none → H' l = some (.lst (refs ps)) → ListsAt H' ps jss → (∀ p ∈ ps, H p = none) → Q (.ref l) H'
def spChoices (s : Nat) : Sp := fun vs H Q _ => ∃ n : Nat, vs = [.int (n : Int), .int (s : Int)] ∧ n ≤ 6 ∧ s ≤ 6 ∧ GivesLists (choices n s) H Q
abbrev st_choices_of : Stmt := top 40
abbrev ps_choices_of : List Str := ["many", "size"]
abbrev N_choices_of : List Str := ["many", "size", "found", "first", "least", "at"]
theorem sc_choices_of : FnScope N_choices_of ps_choices_of (defScope st_choices_of) := ⟨rfl, rfl, rfl, by decide +kernel, rfl, by decide +kernel, by decide +kernel⟩
theorem body_choices {f : Addr} {fd : FuncData} {k s : Nat} {sp : Sp} (F : Fun K "choices_of" "choices_of" st_choices_of f fd) (T : Txt K mg w C aN aF aO eF eO nF nO) (D_choices_of : Def P w K mg base "choices_of" k sp) (hs : s = 0 ∨ ∃ t, s = t + 1 ∧ sp = spChoices t) :
    FnOk P w K mg base CX0 (k + 1) f fd ps_choices_of (spChoices s) := by
  refine F.ok sc_choices_of (fun vs H Q E h => ?_) (fun cdv A outer s0 H vs Q E hr h => ?_)
  · obtain ⟨_, rfl, _⟩ := h
    rfl
  obtain ⟨n, rfl, hn, hs6, go⟩ := h
  have nd := sc_choices_of.nd
  have line : sizeLine = 16777216 := sizeLine_eq
  refine ⟨_, (pss_cons (ps_if (pt_cmpR op_eq (pv 1) pe_int (nomark _))
    (pss_one (ps_ret (pe_lst (pa_cons (pe_lst pa_nil) pa_nil))))
    pss_nil)
    (pss_cons (ps_set (i := 2) nd rfl (Or.inl rfl) (pe_lst pa_nil))
    (pss_cons (ps_for PassesOwn.never rfl (pi_list (pe_callD D_choices_of hr (by rfl) (pa_cons (pv 0) (pa_cons (pe_op op_sub (pv 1) pe_int) pa_nil)))) (pg_name (i := 3) nd rfl (Or.inr rfl))
    (Evl.pss_cut (ps_set (i := 4) nd rfl (Or.inl rfl) (pe_ifExp (pt_truth (pv 3) (by intro _; rfl)) (pe_op op_add (pe_ix ix_list (pv 3) (pe_un un_neg pe_int) (fun _ _ => rfl)) pe_int) pe_int))
      (pss_one (ps_expr (pe_bm PySem.F.plainAttrs_list PySem.F.slot_list_extend PySem.F.type_list_extend mt_extend (pv 2) (pa_cons (pe_lc (own := [("at", 5)]) (g := gName 5) (tt := tYes) rfl nd (pi_range2 rfl T.range (pa_cons (pv 4) (pa_cons (pv 0) pa_nil))) (blkOk_by (N := N_choices_of) (sc := defScope st_choices_of) (by decide +kernel)) (fun _ _ _ _ _ => pg_name (i := 5) nd rfl (Or.inl rfl)) (fun _ _ _ _ _ => pts_nil) (fun _ _ _ _ _ => (pe_op op_cat (pv 3) (pe_lst (pa_cons (pv 5) pa_nil))))) pa_nil))))))
    (pss_one (ps_ret (pv 2)))))), ?_⟩
  refine ⟨_, rfl, rfl, _, rfl, ite2 (fun e => ?_) (fun e => ?_)⟩
  · have e : s = 0 := by
      have := V.int.inj (of_decide_eq_true e)
      omega
    subst e
    exact ⟨Nat.zero_le _, fun p np => ⟨by show 1 ≤ sizeLine; decide, fun l nl => go l [p] _ ((same_new np).trans (same_new nl)) (nxn nl).1 upd_same (.cons (nx nl upd_same) .nil) fun q hq => by
      have e : q = p := by simpa using hq
      rw [e]
      exact np⟩⟩
  have e : s ≠ 0 := fun z => e (by rw [z]; exact dI rfl)
  obtain ⟨t, rfl, rfl⟩ := hs.resolve_left e
  refine ⟨Nat.zero_le _, fun Fl nF => ?_⟩
  have sF := same_new (o := .lst []) nF
  generalize hHf : upd H Fl (.lst []) = Hf at sF ⊢
  have atF : Hf Fl = some (.lst []) := by rw [← hHf, upd_same]
  refine ⟨_, rfl, _, rfl, _, _, rfl, rfl, n, congrArg (fun z => [V.int (n : Int), V.int z]) (by omega), hn, by omega, fun l ps H1 s1 nl hl hL hf => ⟨l, rfl, ⟨_, SqL.of hl⟩, for_list (K := K) (a := l) (xs := refs ps)
    (fun i σ H' => ∃ (z1 z2 : Option V) (os : List Addr), σ = [some (.int (n : Int)), some (.int ((t + 1 : Nat) : Int)), some (.ref Fl), z1, z2, none] ∧ (∀ b u, H1 b = some u → b ≠ Fl → H' b = some u) ∧ H' Fl = some (.lst (refs os)) ∧
      ListsAt H' os (((choices n t).take i).flatMap (longer n)) ∧ ∀ o ∈ os, Hf o = none) ⟨none, none, [], rfl, fun b u h _ => h, s1 _ _ atF, .nil, fun o ho => nomatch ho⟩ (fun i σ H' _ ⟨_, _, _, _, kp, _⟩ => SqL.of (kp _ _ hl (ne_of_none atF nl).symm)) ?_ ?_⟩⟩
  · rintro i y σ H' hy ⟨z1, z2, os, rfl, kp, hF, hO, fO⟩
    obtain ⟨p, hp, rfl⟩ : ∃ p, ps[i]? = some p ∧ V.ref p = y := by
      rw [List.getElem?_map] at hy
      exact Option.map_eq_some_iff.mp hy
    obtain ⟨js, hjs, hpj⟩ := paired_get hL hp
    have pF : p ≠ Fl := fun z => by
      have := hf p (List.mem_of_getElem? hp)
      rw [z, atF] at this
      cases this
    have hp' : H' p = some (.lst (natV js)) := kp _ _ hpj pF
    obtain ⟨⟨jasc, jlt⟩, jlen⟩ := choices_asc n t js (List.mem_of_getElem? hjs)
    have lle : leastOf js ≤ n := by
      unfold leastOf
      cases hlast : js.getLast? with
      | none => exact Nat.zero_le _
      | some k =>
        exact jlt k (List.mem_of_getLast? hlast)
    -- least
    refine ⟨fun σ2 H2 => σ2 = [some (.int (n : Int)), some (.int ((t + 1 : Nat) : Int)), some (.ref Fl), some (.ref p), some (.int (leastOf js : Int)), none] ∧ H2 = H', ?_, ?_⟩
    · rcases List.eq_nil_or_concat js with e0 | ⟨ys, j, e0⟩
      · subst e0
        exact ⟨_, rfl, false, .inl ⟨_, SqL.of hp', rfl⟩, iteF ⟨rfl, rfl⟩⟩
      · rw [List.concat_eq_append] at e0
        subst e0
        rw [natV_app] at hp'
        refine ⟨_, rfl, true, .inl ⟨_, SqL.of hp', ?_⟩, iteT ?_⟩
        · simp
        · refine ⟨_, rfl, _, rfl, _, _, _, _, rfl, rfl, SqL.of hp', atI_last _ _, _, _, rfl, rfl, ?_, rfl⟩
          rw [least_app]
          rfl
    rintro σ2 H2 ⟨rfl, rfl⟩
    have hn64 : (n : Int) ≤ 6 := by omega
    refine ⟨_, rfl, .inl ⟨rfl, _, SqL.of hF⟩, _, rfl, _, rfl, (leastOf js : Int), (n : Int), rfl, ⟨by omega, by omega, by omega, by omega⟩, fun D nD => lc_range (lo := (leastOf js : Int)) (n := ((n : Int) - (leastOf js : Int)).toNat)
      (fun j H3 => ∃ qs : List Addr, Same H2 H3 ∧ H3 D = some (.lst (refs qs)) ∧ ListsAt H3 qs (((List.range' (leastOf js) (n - leastOf js)).take j).map fun k => js ++ [k]) ∧ ∀ q ∈ qs, H2 q = none ∧ q ≠ D)
      ⟨[], same_new nD, upd_same, .nil, fun q hq => nomatch hq⟩ ?_ ?_⟩
    · rintro j H3 hj ⟨qs, s3, hD, hQ, fQ⟩
      have hp3 := s3 _ _ hp'
      have hjn : j < n - leastOf js := by omega
      refine ⟨rfl, _, rfl, _, rfl, by show 1 ≤ sizeLine; decide, fun b nb => ?_⟩
      refine ⟨p, b, natV js, [.int ((leastOf js : Int) + (j : Int))], rfl, rfl, nx nb hp3, upd_same, ?_, fun q nq => ?_⟩
      · rw [natV_len, List.length_singleton, jlen]
        omega
      have s5 : Same H3 (upd (upd H3 b (.lst [.int ((leastOf js : Int) + (j : Int))])) q (.lst (natV js ++ [.int ((leastOf js : Int) + (j : Int))]))) := (same_new nb).trans (same_new nq)
      have nq3 : H3 q = none := (nxn nq).1
      have qD : q ≠ D := (ne_of_none hD nq3).symm
      refine ⟨_, s5 _ _ hD, ?_, qs ++ [q], ?_, ?_, ?_, ?_⟩
      · have := hQ.length
        rw [List.length_map, List.length_take, List.length_range'] at this
        rw [List.length_map]
        omega
      · exact Same.mut (s3.trans s5) nD
      · rw [upd_same, show refs (qs ++ [q]) = refs qs ++ [V.ref q] from List.map_append]
      · rw [take_map_succ (range'_get hjn)]
        refine paired_app (ListsAt.upd (hQ.mono s5) fun o ho => (fQ o ho).2) (.cons ?_ .nil)
        rw [upd_ne qD, upd_same, natV_app]
        rfl
      · intro o ho
        rcases List.mem_append.mp ho with ho | ho
        · exact fQ o ho
        · have e : o = q := by simpa using ho
          rw [e]
          exact ⟨s3.free nq3, qD⟩
    · rintro H3 ⟨qs, s3, hD, hQ, fQ⟩
      have etake : (List.range' (leastOf js) (n - leastOf js)).take (((n : Int) - (leastOf js : Int)).toNat) = List.range' (leastOf js) (n - leastOf js) := by
        rw [List.take_of_length_le]
        rw [List.length_range']
        omega
      rw [etake] at hQ
      have DF : D ≠ Fl := (ne_of_none hF nD).symm
      have hF3 := s3 _ _ hF
      have len1 := hO.length
      have len2 := hQ.length
      have l1 := flat_take_len n t i hn (by omega)
      have l2 := longer_len n js
      have ql : (longer n js).length = qs.length := by rw [len2]; rfl
      refine ⟨Fl, D, _, _, rfl, rfl, hF3, hD, ?_, ?_⟩
      · rw [List.length_map, List.length_map]
        omega
      have oF : ∀ o ∈ os, o ≠ Fl := fun o ho z => by
        have := fO o ho
        rw [z, atF] at this
        cases this
      have qF : ∀ q ∈ qs, q ≠ Fl := fun q hq z => by
        have := (fQ q hq).1
        rw [z, hF] at this
        cases this
      refine ⟨_, _, os ++ qs, rfl, fun b u h hb => ?_, ?_, ?_, ?_⟩
      · rw [upd_ne hb]
        exact s3 _ _ (kp _ _ h hb)
      · rw [upd_same, show refs (os ++ qs) = refs os ++ refs qs from List.map_append]
      · rw [List.take_add_one, hjs, List.flatMap_append]
        refine paired_app (ListsAt.upd (hO.mono s3) oF) ?_
        show ListsAt _ qs ([js].flatMap (longer n))
        rw [List.flatMap_singleton]
        exact ListsAt.upd hQ qF
      · intro o ho
        rcases List.mem_append.mp ho with ho | ho
        · exact fO o ho
        · have h2 := (fQ o ho).1
          cases hh : Hf o with
          | none => rfl
          | some u =>
            have := kp _ _ (s1 _ _ hh) (qF o ho)
            rw [h2] at this
            cases this
  · rintro σ H' ⟨z1, z2, os, rfl, kp, hF, hO, fO⟩
    rw [List.length_map, hL.length, List.take_length] at hO
    refine ⟨_, rfl, go Fl os H' (fun b u h => ?_) nF hF hO fun o ho => sF.free (fO o ho)⟩
    exact kp _ _ (s1 _ _ (sF _ _ h)) (ne_of_none h nF)
def spChoicesAll : Sp := fun vs H Q E => ∃ s : Nat, s ≤ 6 ∧ spChoices s vs H Q E
theorem d_choices_of (F : FunAt K mg "choices_of" "choices_of" st_choices_of ps_choices_of) (T : Txt K mg w C aN aF aO eF eO nF nO) : Def P w K mg base "choices_of" 8 spChoicesAll := by
  obtain ⟨f, fd, F, hm, hb⟩ := F
  have all : ∀ s, FnOk P w K mg base CX0 (s + 2) f fd ps_choices_of (spChoices s) := by
    intro s
    induction s with
    | zero =>
      have z : FnOk P w K mg base CX0 1 f fd ps_choices_of (fun _ _ _ _ => False) := ⟨fun _ _ _ _ h => h.elim, fun _ _ _ _ _ _ _ _ _ _ _ _ _ h => h.elim⟩
      exact body_choices F T ⟨f, fd, _, hm, F.kp, hb, z⟩ (.inl rfl)
    | succ s ih => exact body_choices F T ⟨f, fd, _, hm, F.kp, hb, ih⟩ (.inr ⟨s, rfl, rfl⟩)
  refine ⟨f, fd, ps_choices_of, hm, F.kp, hb, ⟨fun vs H Q E ⟨s, _, h⟩ => (all s).len vs H Q E h, fun A outer s0 H args us vs Q E hr e0 hbt rv h => ?_⟩⟩
  obtain ⟨s, hs, h⟩ := h
  exact (all s).run A outer s0 H args us vs Q E (hr.mono (by omega)) e0 hbt rv h
end
end K47

/-! K47P8: kept. -/
namespace K47
open PySem PySem.Spec PyProof.Rows L2
theorem made_same {H : Hp} {x dx C : Addr} (n1 : H x = none) (n2 : H dx = none) (ne : dx ≠ x) : Same H (upd (upd H dx (.own x)) x (.ins C dx [])) :=
  (same_new n2).trans (same_new (by rw [upd_ne ne.symm]; exact n1))
theorem find_at {α : Type} {p : α → Bool} {a : α} : ∀ {l : List α} {r : List α}, (∀ b ∈ l, p b = false) → p a = true → (l ++ a :: r).find? p = some a
  | [], r, _, h => by
    rw [List.nil_append, List.find?_cons, h]
  | b :: l, r, hl, h => by
    rw [List.cons_append, List.find?_cons, hl b List.mem_cons_self]
    exact find_at (fun c hc => hl c (List.mem_cons_of_mem _ hc)) h
theorem upTo_split (n : Nat) : ∀ {m s : Nat}, s < m → ∃ r, upTo n m = upTo n s ++ (choices n s ++ r)
  | 0, s, h => absurd h (Nat.not_lt_zero _)
  | m + 1, s, h => by
    rcases Nat.lt_succ_iff_lt_or_eq.mp h with h | h
    · obtain ⟨r, e⟩ := upTo_split n h
      refine ⟨r ++ choices n m, ?_⟩
      show upTo n m ++ choices n m = _
      rw [e, List.append_assoc, List.append_assoc]
    · subst h
      exact ⟨[], by show upTo n s ++ choices n s = _; rw [List.append_nil]⟩
theorem kept_here {n : Int} {cs : List Cl} {s i : Nat} {js : List Nat} (hs : s < cs.length) (h1 : ∀ ks ∈ upTo cs.length s, alikeB n cs (pick cs ks) = false) (h2 : ∀ ks ∈ (choices cs.length s).take i, alikeB n cs (pick cs ks) = false)
    (hj : (choices cs.length s)[i]? = some js) (ha : alikeB n cs (pick cs js) = true) : keptOf n cs = js := by
  obtain ⟨r, e⟩ := upTo_split cs.length hs
  unfold keptOf
  obtain ⟨hi, hg⟩ := List.getElem?_eq_some_iff.mp hj
  have es : choices cs.length s = (choices cs.length s).take i ++ js :: (choices cs.length s).drop (i + 1) := by
    rw [← hg, List.getElem_cons_drop, List.take_append_drop]
  have e2 : upTo cs.length cs.length = (upTo cs.length s ++ (choices cs.length s).take i) ++ js :: ((choices cs.length s).drop (i + 1) ++ r) := by
    rw [e]
    conv => lhs; rw [es]
    simp only [List.append_assoc, List.cons_append]
  have e3 := find_at (p := fun js => alikeB n cs (pick cs js)) (l := upTo cs.length s ++ (choices cs.length s).take i) (r := (choices cs.length s).drop (i + 1) ++ r) (fun ks hk => by
    rcases List.mem_append.mp hk with hk | hk
    · exact h1 ks hk
    · exact h2 ks hk) ha
  rw [e2, e3]
  rfl
theorem kept_none {n : Int} {cs : List Cl} (h1 : ∀ ks ∈ upTo cs.length cs.length, alikeB n cs (pick cs ks) = false) : keptOf n cs = List.range cs.length := by
  unfold keptOf
  rw [List.find?_eq_none.mpr fun ks hk => by rw [h1 ks hk]; exact Bool.false_ne_true]
  rfl
theorem pick_take {α : Type} {xs : List α} {js : List Nat} {j k : Nat} {a : α} (h : js[j]? = some k) (ha : xs[k]? = some a) : pick xs (js.take (j + 1)) = pick xs (js.take j) ++ [a] := by
  unfold pick
  rw [List.take_add_one, h, List.filterMap_append]
  show _ ++ List.filterMap _ [k] = _
  rw [List.filterMap_cons, ha]
  rfl
theorem pick_sub {α : Type} {xs : List α} {js : List Nat} {a : α} (h : a ∈ pick xs js) : a ∈ xs := by
  unfold pick at h
  obtain ⟨j, _, e⟩ := List.mem_filterMap.mp h
  exact List.mem_of_getElem? e
theorem pick_len {α : Type} (xs : List α) (js : List Nat) : (pick xs js).length ≤ js.length := List.length_filterMap_le _ _
theorem asc_len {js : List Nat} {n : Nat} (h : Asc n js) : js.length ≤ n := by
  cases e : js.length with
  | zero => exact Nat.zero_le _
  | succ m =>
    have := asc_get h m (by omega)
    omega
theorem pick_ok {n : Int} {cs : List Cl} {js : List Nat} (h : AllOk n cs) (ha : Asc cs.length js) : AllOk n (pick cs js) :=
  ⟨Nat.le_trans (pick_len _ _) (Nat.le_trans (asc_len ha) h.1), fun c hc => h.2 c (pick_sub hc)⟩
theorem rg_nat (b : Nat) : rgV 0 (b : Int) = natV (List.range b) := by
  unfold rgV
  rw [show ((b : Int) - 0).toNat = b by omega]
  refine List.map_congr_left fun i _ => ?_
  rw [Int.zero_add]

section
variable {P : Program} {w : World} {K : PySem.W.Frag} {mg : Str → Option Value} {base : Heap} {C aN aF aO : Addr} {eF eO : Array DictEntry} {nF nO : Nat}
def spKept (C : Addr) : Sp := fun vs H Q _ => ∃ (x : Addr) (n : Int) (as : List Addr) (cs : List Cl), vs = [.ref x] ∧ ScriptAt C H x n as cs ∧ FilesOk n ∧ AllOk n cs ∧
  ∀ (p : Addr) (H' : Hp), Same H H' → H p = none → H' p = some (.lst (natV (keptOf n cs))) → Q (.ref p) H'
abbrev st_kept : Stmt := top 41
abbrev ps_kept : List Str := ["script"]
abbrev N_kept : List Str := ["script", "calls", "size", "some", "at"]
theorem sc_kept : FnScope N_kept ps_kept (defScope st_kept) := ⟨rfl, rfl, rfl, by decide +kernel, rfl, by decide +kernel, by decide +kernel⟩
theorem d_kept (F : FunAt K mg "kept" "kept" st_kept ps_kept) (T : Txt K mg w C aN aF aO eF eO nF nO) (D_need_straight : DefS P w K mg base "need_straight" 3 (spNeedStraight C)) (D_m_calls : DefM P w K mg base C "calls" 1 (spSCalls C))
    (D_choices_of : Def P w K mg base "choices_of" 8 spChoicesAll) (D_files : DefP P w K mg base C "files" 1 (spSFiles C)) (D_Script : DefC P w K mg base C "Script" 4 (spInit C)) (D_alike : Def P w K mg base "alike" 9 (spAlike C)) :
    Def P w K mg base "kept" 10 (spKept C) := by
  refine def_of F sc_kept (fun vs H Q E h => ?_) (fun f cdv A outer s0 H vs Q E hr h => ?_)
  · obtain ⟨_, _, _, _, rfl, _⟩ := h
    rfl
  obtain ⟨x, n, as, cs, rfl, S, hn, ok, go⟩ := h
  have nd := sc_kept.nd
  have line : sizeLine = 16777216 := sizeLine_eq
  obtain ⟨dx, t, hx, ht, hcs⟩ := id S
  have len6 := ok.1
  have elen : ((refs as).length : Int) = (cs.length : Int) := by rw [List.length_map, hcs.length]
  refine ⟨_, (pss_cons (ps_expr (pe_callDS D_need_straight (hr.mono (by decide)) (by rfl) (pa_cons (pv 0) pa_nil)))
    (pss_cons (ps_set (i := 1) nd rfl (Or.inr rfl) (pe_methD (pv 0) T.cl D_m_calls (hr.mono (by decide))))
    (pss_cons (ps_for PassesOwn.never rfl (pi_range1 rfl T.range (pa_cons (pe_callB call_len_seq (by rfl) T.len PySem.boot_len (pa_cons (pv 1) pa_nil)) pa_nil)) (pg_name (i := 2) nd rfl (Or.inl rfl))
    (pss_one (ps_for PassesOwn.never rfl (pi_list (pe_callD D_choices_of (hr.mono (by decide)) (by rfl) (pa_cons (pe_callB call_len_seq (by rfl) T.len PySem.boot_len (pa_cons (pv 1) pa_nil)) (pa_cons (pv 2) pa_nil)))) (pg_name (i := 3) nd rfl (Or.inl rfl))
      (pss_one (ps_if (pt_val (pe_callD D_alike (hr.mono (by decide)) (by rfl) (pa_cons (pv 0) (pa_cons (pe_makeD D_Script (hr.mono (by decide)) (by rfl) (pa_cons (pe_propD (pv 0) T.cl D_files (hr.mono (by decide))) (pa_cons (pe_lc (own := [("at", 4)]) (g := gName 4) (tt := tYes) rfl nd (pi_list (pv 3)) (blkOk_by (N := N_kept) (sc := defScope st_kept) (by decide +kernel)) (fun _ _ _ _ _ => pg_name (i := 4) nd rfl (Or.inl rfl)) (fun _ _ _ _ _ => pts_nil) (fun _ _ _ _ _ => (pe_ix (r := rIxL K) ix_list (pv 1) (pv 4) (fun _ _ => rfl)))) pa_nil))) pa_nil))))
        (pss_one (ps_ret (pv 3)))
        pss_nil)))))
    (pss_one (ps_ret (pe_listRg rfl (by rfl) T.list (prg_1 (by rfl) T.range (pe_callB call_len_seq (by rfl) T.len PySem.boot_len (pa_cons (pv 1) pa_nil))))))))), ?_⟩
  refine ⟨_, rfl, [x], rfl, (by show 1 ≤ 2; decide), fun z hz => ?_, fun H1 s1 => ?_⟩
  · have e : z = x := by simpa using hz
    rw [e]
    exact ⟨n, as, cs, S, len6⟩
  refine ⟨_, rfl, x, dx, _, rfl, s1 _ _ hx, sf_no _ _ (by decide +kernel) (by decide +kernel), x, n, as, cs, rfl, S.mono s1, fun l H2 s2 nl hl => ?_⟩
  have s02 := s1.trans s2
  refine ⟨_, rfl, l, _, rfl, .inl (SqL.of hl), (cs.length : Int), congrArg (fun z => [V.int z]) elen, by omega, by omega, for_range (lo := 0) (n := ((cs.length : Nat) : Int).toNat)
    (fun s σ H' => ∃ z2 z3 : Option V, σ = [some (.ref x), some (.ref l), z2, z3, none] ∧ Same H2 H' ∧ ∀ js ∈ upTo cs.length s, alikeB n cs (pick cs js) = false) ⟨none, none, rfl, Same.refl _, fun _ z => nomatch z⟩ ?_ ?_⟩
  · rintro s σ H3 hs ⟨z2, z3, rfl, s3, hno⟩
    have hs : s < cs.length := by omega
    refine ⟨_, rfl, l, _, rfl, .inl (SqL.of (s3 _ _ hl)), _, rfl, s, by omega, cs.length, by rw [elen, Int.zero_add], len6, by omega, fun l2 ps H4 s4 nl2 hl2 hL hf => ⟨l2, rfl, ⟨_, SqL.of hl2⟩, for_list (K := K) (a := l2) (xs := refs ps)
      (fun i σ H' => ∃ z3 : Option V, σ = [some (.ref x), some (.ref l), some (.int (0 + (s : Int))), z3, none] ∧ Same H4 H' ∧ ∀ js ∈ (choices cs.length s).take i, alikeB n cs (pick cs js) = false)
      ⟨z3, rfl, Same.refl _, fun _ z => nomatch z⟩ (fun i σ H' _ ⟨_, _, s5, _⟩ => SqL.of (s5 _ _ hl2)) ?_ ?_⟩⟩
    · rintro i y σ H5 hy ⟨z3, rfl, s5, hno2⟩
      obtain ⟨p, hp, rfl⟩ : ∃ p, ps[i]? = some p ∧ V.ref p = y := by
        rw [List.getElem?_map] at hy
        exact Option.map_eq_some_iff.mp hy
      obtain ⟨js, hjs, hpj⟩ := paired_get hL hp
      obtain ⟨jasc, jlen⟩ := choices_asc cs.length s js (List.mem_of_getElem? hjs)
      have s25 : Same H2 H5 := s3.trans (s4.trans s5)
      have s05 := s02.trans s25
      refine ⟨_, rfl, _, rfl, x, dx, _, rfl, s05 _ _ hx, x, n, as, cs, rfl, S.mono s05, _, rfl, p, rfl, ⟨_, SqL.of (s5 _ _ hpj)⟩, fun D nD => lc_list (K := K) (a := p) (xs := natV js)
        (fun j H6 => Same H5 H6 ∧ H6 D = some (.lst (refs (pick as (js.take j))))) ⟨same_new nD, upd_same⟩ (fun j H6 _ g => SqL.of (g.1 _ _ (s5 _ _ hpj))) ?_ ?_⟩
      · rintro j y H6 hy ⟨s6, hD⟩
        obtain ⟨k, hk, rfl⟩ : ∃ k : Nat, js[j]? = some k ∧ V.int (k : Int) = y := by
          rw [List.getElem?_map] at hy
          exact Option.map_eq_some_iff.mp hy
        have hkl : k < as.length := by
          rw [hcs.length]
          exact jasc.2 k (List.mem_of_getElem? hk)
        have ha : as[k]? = some as[k] := List.getElem?_eq_getElem hkl
        refine ⟨rfl, _, rfl, _, rfl, l, _, _, _, rfl, rfl, SqL.of (s6 _ _ (s25 _ _ hl)), atI_nat (j := k) (by rw [List.getElem?_map, ha]; rfl), _, hD, ?_, Same.mut s6 nD, ?_⟩
        · have := pick_len as (js.take j)
          rw [List.length_take] at this
          rw [List.length_map]
          omega
        · rw [upd_same, pick_take hk ha, show refs (pick as (js.take j) ++ [as[k]]) = refs (pick as (js.take j)) ++ [V.ref as[k]] from List.map_append]
      · rintro H6 ⟨s6, hD⟩
        rw [natV_len, List.take_length] at hD
        intro y dy ny ndy hne
        have sm := made_same (C := C) ny ndy hne
        have hcs6 : CallsAt H6 as cs := (hcs.mono s05).mono s6
        have okp := pick_ok ok jasc
        refine ⟨y, dy, D, n, pick as js, pick cs js, rfl, hn, upd_same, sm _ _ hD, CallsAt.mono sm (paired_pick hcs6 js), okp, fun H7 S7 keep => ⟨rfl, ?_⟩⟩
        have s67 : Same H6 H7 := Same.made ny ndy keep
        have s07 := s05.trans (s6.trans s67)
        refine ⟨x, y, n, as, pick as js, cs, pick cs js, rfl, ⟨S.mono s07, S7, hn, ok, okp⟩, fun H8 s8 => ⟨_, rfl, ite2 (fun e => ?_) (fun e => ?_)⟩⟩
        · refine ⟨_, rfl, go p H8 (s07.trans s8) ?_ ?_⟩
          · have := hf p (List.mem_of_getElem? hp)
            exact (s02.trans s3).free this
          · rw [kept_here hs hno hno2 hjs e]
            exact s8 _ _ (s67 _ _ (s6 _ _ (s5 _ _ hpj)))
        · refine ⟨_, rfl, s5.trans (s6.trans (s67.trans s8)), fun ks hk => ?_⟩
          rw [List.take_add_one, hjs] at hk
          rcases List.mem_append.mp hk with hk | hk
          · exact hno2 ks hk
          · have e2 : ks = js := by simpa using hk
            rw [e2]
            exact Bool.eq_false_iff.mpr e
    · rintro σ H5 ⟨z3, rfl, s5, hno2⟩
      refine ⟨_, _, rfl, s3.trans (s4.trans s5), fun ks hk => ?_⟩
      rw [List.length_map, hL.length, List.take_length] at hno2
      rcases List.mem_append.mp (show ks ∈ upTo cs.length s ++ choices cs.length s from hk) with hk | hk
      · exact hno ks hk
      · exact hno2 ks hk
  · rintro σ H3 ⟨z2, z3, rfl, s3, hno⟩
    rw [Int.toNat_natCast] at hno
    refine ⟨_, rfl, l, _, rfl, .inl (SqL.of (s3 _ _ hl)), (cs.length : Int), congrArg V.int elen, RgOk.of_le (Int.le_refl _) (by omega) (by omega) (by omega), fun q nq => go q _ (s02.trans (s3.trans (same_new nq))) ((s02.trans s3).free nq) ?_⟩
    rw [upd_same, rg_nat, kept_none hno]
end
end K47

/-! K47L1: the law's bag: what is drawn is some number below the bound; the bag keeps its form. -/
namespace K47
open PySem PySem.Spec PyProof.Rows L2
theorem pA : (0 : Int) < 2147483647 := by decide
theorem pB : (0 : Int) < 1000000007 := by decide
theorem pC : (0 : Int) < 998244353 := by decide
/-- the bag's list at b, the cells' at c -/
def BagAt (H : Hp) (b c : Addr) : Prop := ∃ (x y z : Int) (ns : List Int), H b = some (.lst [.int x, .int y, .int z, .ref c]) ∧ H c = some (.lst (intV ns)) ∧ 0 ≤ z ∧ ns.length ≤ 63
/-- all but the bag stands -/
def SB (b : Addr) (H H' : Hp) : Prop := ∀ a o, H a = some o → a ≠ b → H' a = some o
theorem SB.refl (b : Addr) (H : Hp) : SB b H H := fun _ _ h _ => h
theorem SB.trans {b : Addr} {H H1 H2 : Hp} (x : SB b H H1) (y : SB b H1 H2) : SB b H H2 := fun a o h n => y a o (x a o h n) n
theorem sb_same {b : Addr} {H H' : Hp} (e : Same H H') : SB b H H' := fun a o h _ => e a o h
theorem sb_upd {b : Addr} {H : Hp} {o : HO} : SB b H (upd H b o) := fun a u h n => by
  rw [upd_ne n]
  exact h
theorem SB.mut {b F : Addr} {H H' : Hp} {o : HO} (x : SB b H H') (h : H F = none) : SB b H (upd H' F o) := fun a u e n => by
  rw [upd_ne (ne_of_none e h)]
  exact x a u e n
theorem bag_there {H : Hp} {b c : Addr} (h : BagAt H b c) : ∃ o, H b = some o := let ⟨_, _, _, _, e, _⟩ := h; ⟨_, e⟩
theorem SB.free {b c p : Addr} {H H' : Hp} (x : SB b H H') (h : BagAt H' b c) (n : H' p = none) : H p = none := by
  cases e : H p with
  | none => rfl
  | some o =>
    by_cases hp : p = b
    · obtain ⟨u, hu⟩ := bag_there h
      rw [hp, hu] at n
      cases n
    · rw [x p o e hp] at n
      cases n
theorem BagAt.mono {b c : Addr} {H H' : Hp} (e : Same H H') : BagAt H b c → BagAt H' b c
  | ⟨x, y, z, ns, h1, h2, h3⟩ => ⟨x, y, z, ns, e _ _ h1, e _ _ h2, h3⟩
theorem BagAt.upd {b c F : Addr} {H : Hp} {o : HO} (h1 : F ≠ b) (h2 : F ≠ c) : BagAt H b c → BagAt (upd H F o) b c
  | ⟨x, y, z, ns, e1, e2, h3⟩ => ⟨x, y, z, ns, by rw [upd_ne h1.symm]; exact e1, by rw [upd_ne h2.symm]; exact e2, h3⟩
/-- a new thing is neither -/
theorem bag_new {H : Hp} {b c F : Addr} (h : BagAt H b c) (n : H F = none) : F ≠ b ∧ F ≠ c := by
  obtain ⟨_, _, _, _, e1, e2, _⟩ := h
  exact ⟨(ne_of_none e1 n).symm, (ne_of_none e2 n).symm⟩
/-- things other than the bag -/
theorem bag_tup {H : Hp} {b c a : Addr} {xs : List V} (h : BagAt H b c) (ha : H a = some (.tup xs)) : a ≠ b := by
  obtain ⟨_, _, _, _, e, _⟩ := h
  exact ne_of ha e fun z => nomatch z
theorem bag_ins {H : Hp} {b c a C dx : Addr} {fs : List (Str × V)} (h : BagAt H b c) (ha : H a = some (.ins C dx fs)) : a ≠ b := by
  obtain ⟨_, _, _, _, e, _⟩ := h
  exact ne_of ha e fun z => nomatch z
theorem bag_ints {H : Hp} {b c a : Addr} {ns : List Int} (h : BagAt H b c) (ha : H a = some (.lst (intV ns))) : a ≠ b := by
  obtain ⟨_, _, _, _, e, _⟩ := h
  refine ne_of ha e fun z => ?_
  have z := HO.lst.inj z
  have hm : V.ref c ∈ intV ns := by
    rw [z]
    simp
  obtain ⟨_, _, e⟩ := List.mem_map.mp hm
  cases e
theorem bag_nats {H : Hp} {b c a : Addr} {ns : List Nat} (h : BagAt H b c) (ha : H a = some (.lst (natV ns))) : a ≠ b := by
  refine bag_ints (ns := ns.map fun (n : Nat) => (n : Int)) h ?_
  rw [ha]
  simp [Function.comp_def]
theorem bag_refs {H : Hp} {b c a : Addr} {as : List Addr} (h : BagAt H b c) (ha : H a = some (.lst (refs as))) : a ≠ b := by
  obtain ⟨x, _, _, _, e, _⟩ := h
  refine ne_of ha e fun z => ?_
  have z := HO.lst.inj z
  have hm : V.int x ∈ refs as := by
    rw [z]
    simp
  obtain ⟨_, _, e⟩ := List.mem_map.mp hm
  cases e
theorem SB.calls {b c : Addr} {H H' : Hp} {as : List Addr} {cs : List Cl} (x : SB b H H') (h : BagAt H b c) (q : CallsAt H as cs) : CallsAt H' as cs := L2.Paired.mapP q fun _ _ e => x _ _ e (bag_tup h e)
theorem cut_take (ns : List Int) (h : ns.length ≤ 63) : cutV (intV ns) none (some 63) = intV ns := by
  have h1 : HT.sIx (intV ns).length (intV ns).length (some 63) = (intV ns).length := by
    have := HT.sIx_nat (intV ns).length (intV ns).length 63
    rw [show (63 : Int) = ((63 : Nat) : Int) from rfl, this, List.length_map]
    omega
  unfold cutV
  rw [h1, HT.sIx_none]
  show List.take ((intV ns).length - 0) (List.drop 0 (intV ns)) = _
  rw [List.drop_zero, Nat.sub_zero, List.take_length]
section
variable {P : Program} {w : World} {K : PySem.W.Frag} {mg : Str → Option Value} {base : Heap} {C aN aF aO : Addr} {eF eO : Array DictEntry} {nF nO : Nat}
def spBag (K : PySem.W.Frag) : Sp := fun vs H Q _ => ∃ (a : Addr) (ns : List Int), vs = [.ref a] ∧ SqL K H a (intV ns) ∧ ns.length ≤ 63 ∧ ∀ b c H', Same H H' → H b = none → BagAt H' b c → Q (.ref b) H'
abbrev st__law_bag : Stmt := top 43
abbrev ps__law_bag : List Str := ["_law_script"]
abbrev N__law_bag : List Str := ["_law_script", "_law_cell"]
theorem sc__law_bag : FnScope N__law_bag ps__law_bag (defScope st__law_bag) := ⟨rfl, rfl, rfl, by decide +kernel, rfl, by decide +kernel, by decide +kernel⟩
theorem d_law_bag (F : FunAt K mg "_law_bag" "_law_bag" st__law_bag ps__law_bag) (T : Txt K mg w C aN aF aO eF eO nF nO) : Def P w K mg base "_law_bag" 1 (spBag K) := by
  refine def_of F sc__law_bag (fun vs H Q E h => ?_) (fun f cdv A outer s H vs Q E hr h => ?_)
  · obtain ⟨_, _, rfl, _⟩ := h
    rfl
  obtain ⟨a, ns, rfl, ha, hl, k⟩ := h
  have nd := sc__law_bag.nd
  refine ⟨_, (pss_one (ps_ret (pe_lst (pa_cons pe_int (pa_cons pe_int (pa_cons pe_int (pa_cons (pe_lc (own := [("_law_cell", 1)]) (g := gName 1) (tt := tYes) rfl nd (pi_list (pe_slice sl_list (pv 0) po_none (po_some pe_int))) (blkOk_by (N := N__law_bag) (sc := defScope st__law_bag) (by decide +kernel)) (fun _ _ _ _ _ => pg_name (i := 1) nd rfl (Or.inl rfl)) (fun _ _ _ _ _ => pts_nil) (fun _ _ _ _ _ => (pe_callB call_abs (by rfl) T.abs (by decide +kernel) (pa_cons (pv 1) pa_nil)))) pa_nil))))))), ?_⟩
  refine ⟨_, rfl, _, rfl, a, _, rfl, ha, fun p np => ?_⟩
  rw [cut_take ns hl]
  have sp := same_new (o := .lst (intV ns)) np
  refine ⟨p, rfl, ⟨_, SqL.of upd_same⟩, fun D nD => lc_list (K := K) (a := p) (xs := intV ns) (fun i H' => Same (upd H p (.lst (intV ns))) H' ∧ ∃ ms : List Int, H' D = some (.lst (intV ms)) ∧ ms.length = i)
    ⟨same_new nD, [], upd_same, rfl⟩ (fun i H' _ g => SqL.of (g.1 _ _ upd_same)) ?_ ?_⟩
  · rintro i y H' hy ⟨s1, ms, hD, hm⟩
    obtain ⟨z, hz, rfl⟩ : ∃ z, ns[i]? = some z ∧ V.int z = y := by
      rw [List.getElem?_map] at hy
      exact Option.map_eq_some_iff.mp hy
    have hi := (List.getElem?_eq_some_iff.mp hz).1
    refine ⟨rfl, _, rfl, _, rfl, _, hD, ?_, Same.mut s1 nD, ms ++ [if z < 0 then -z else z], ?_, ?_⟩
    · rw [List.length_map, hm]
      exact Nat.lt_of_lt_of_le hi (Nat.le_trans hl (by decide))
    · rw [upd_same, show intV (ms ++ [if z < 0 then -z else z]) = intV ms ++ [V.int (if z < 0 then -z else z)] from List.map_append]
    · rw [List.length_append, hm, List.length_singleton]
  · rintro H' ⟨s1, ms, hD, hm⟩
    refine ⟨by show 4 ≤ sizeLine; decide, fun b nb => k b D _ (sp.trans (s1.trans (same_new nb))) ((sp.trans s1).free nb) ⟨_, _, _, ms, upd_same, nx nb hD, Int.le_refl _, ?_⟩⟩
    rw [hm, List.length_map]
    exact hl
/-- some number below u is drawn -/
def spTake : Sp := fun vs H Q _ => ∃ (b c : Addr) (u : Int), vs = [.ref b, .int u] ∧ BagAt H b c ∧ 0 < u ∧ u < 1000 ∧ ∀ (r : Int) (H' : Hp), 0 ≤ r → r < u → SB b H H' → BagAt H' b c → Q (.int r) H'
abbrev st__law_take : Stmt := top 44
abbrev ps__law_take : List Str := ["_law_bag_here", "_law_upto"]
abbrev N__law_take : List Str := ["_law_bag_here", "_law_upto", "_law_cell", "_law_mixed_here", "_law_drawn", "_law_begin", "_law_second"]
theorem sc__law_take : FnScope N__law_take ps__law_take (defScope st__law_take) := ⟨rfl, rfl, rfl, by decide +kernel, rfl, by decide +kernel, by decide +kernel⟩
theorem d_law_take (F : FunAt K mg "_law_take" "_law_take" st__law_take ps__law_take) (T : Txt K mg w C aN aF aO eF eO nF nO) : Def P w K mg base "_law_take" 1 spTake := by
  refine def_of F sc__law_take (fun vs H Q E h => ?_) (fun f cdv A outer s H vs Q E hr h => ?_)
  · obtain ⟨_, _, _, rfl, _⟩ := h
    rfl
  obtain ⟨b, c, u, rfl, B, u0, u1, k⟩ := h
  have nd := sc__law_take.nd
  refine ⟨_, (Evl.pss_cut (ps_if (pt_cmpR op_eq (pe_ix ix_list (pv 0) pe_int (fun _ _ => rfl)) pe_int (nomark _))
    (pss_cons (ps_set (i := 2) nd rfl (Or.inl rfl) pe_int)
      (Evl.pss_cut (ps_if (pt_cmpR op_lt (pe_ix ix_list (pv 0) pe_int (fun _ _ => rfl)) (pe_callB call_len_seq (by rfl) T.len PySem.boot_len (pa_cons (pe_ix ix_list (pv 0) pe_int (fun _ _ => rfl)) pa_nil)) (nomark _))
      (pss_one (ps_set (i := 2) nd rfl (Or.inl rfl) (pe_ix ix_list (pe_ix ix_list (pv 0) pe_int (fun _ _ => rfl)) (pe_ix ix_list (pv 0) pe_int (fun _ _ => rfl)) (fun _ _ => rfl))))
      pss_nil)
      (pss_cons (ps_augS (pv 0) pe_int get_list pe_int ip_add set_list)
      (Evl.pss_cut (ps_if (pt_cmpR op_ge (pv 2) pe_int (nomark _))
      (pss_one (ps_asg (pv 2) (pg_sub (pv 0) pe_int set_list)))
      pss_nil)
      (pss_cons (ps_set (i := 3) nd rfl (Or.inl rfl) (pe_op op_add (pe_op op_add (pe_op op_mul (pe_ix ix_list (pv 0) pe_int (fun _ _ => rfl)) pe_int) (pe_op op_mod (pe_callTy call_int1 (by rfl) T.int (by decide +kernel) (pa_cons (pv 2) pa_nil)) pe_int)) (pe_op op_mul pe_int (pe_ix ix_list (pv 0) pe_int (fun _ _ => rfl)))))
      (pss_one (ps_asg (pe_op op_mod (pe_callTy call_int1 (by rfl) T.int (by decide +kernel) (pa_cons (pv 3) pa_nil)) pe_int) (pg_sub (pv 0) pe_int set_list))))))))
    pss_nil)
    (Evl.pss_cut (ps_if (pt_cmpR op_gt (pe_ix ix_list (pv 0) pe_int (fun _ _ => rfl)) pe_int (nomark _))
    (pss_cons (ps_set (i := 4) nd rfl (Or.inl rfl) (pe_op op_mod (pe_callTy call_int1 (by rfl) T.int (by decide +kernel) (pa_cons (pe_ix ix_list (pv 0) pe_int (fun _ _ => rfl)) pa_nil)) (pv 1)))
      (pss_cons (ps_asg (pe_op op_fdiv (pe_callTy call_int1 (by rfl) T.int (by decide +kernel) (pa_cons (pe_ix ix_list (pv 0) pe_int (fun _ _ => rfl)) pa_nil)) (pv 1)) (pg_sub (pv 0) pe_int set_list))
      (pss_one (ps_ret (pv 4)))))
    pss_nil)
    (pss_cons (ps_set (i := 5) nd rfl (Or.inl rfl) (pe_op op_mod (pe_callTy call_int1 (by rfl) T.int (by decide +kernel) (pa_cons (pe_op op_mul (pe_op op_add (pe_ix ix_list (pv 0) pe_int (fun _ _ => rfl)) pe_int) pe_int) pa_nil)) pe_int))
    (pss_cons (ps_set (i := 6) nd rfl (Or.inl rfl) (pe_op op_mod (pe_callTy call_int1 (by rfl) T.int (by decide +kernel) (pa_cons (pe_op op_mul (pe_op op_mod (pe_callTy call_int1 (by rfl) T.int (by decide +kernel) (pa_cons (pe_op op_mul (pv 5) (pv 5)) pa_nil)) pe_int) pe_int) pa_nil)) pe_int))
    (pss_one (ps_ret (pe_op op_mod (pe_callTy call_int1 (by rfl) T.int (by decide +kernel) (pa_cons (pe_op op_fdiv (pv 6) pe_int) pa_nil)) (pv 1)))))))), ?_⟩
  refine ⟨fun σ' H' => ∃ z1 z2 : Option V, σ' = [some (.ref b), some (.int u), z1, z2, none, none, none] ∧ SB b H H' ∧ BagAt H' b c, ?_, ?_⟩
  · obtain ⟨x, y, z, ns, hb, hc, z0, hl⟩ := id B
    have cb : c ≠ b := bag_ints B hc
    refine ⟨_, rfl, b, _, _, _, rfl, rfl, SqL.of hb, (rfl : atI [V.int x, .int y, .int z, .ref c] 0 = some (.int x)), rfl, _, rfl, ite2 (fun _ => ?_) (fun _ => ⟨none, none, rfl, SB.refl _ _, B⟩)⟩
    -- the cell
    refine ⟨fun σ' H' => ∃ cell : Int, σ' = [some (.ref b), some (.int u), some (.int cell), none, none, none, none] ∧ H = H', ?_, ?_⟩
    · refine ⟨_, rfl, b, _, _, _, rfl, rfl, SqL.of hb, (rfl : atI [V.int x, .int y, .int z, .ref c] 2 = some (.int z)), _, rfl, b, _, _, _, rfl, rfl, SqL.of hb, (rfl : atI [V.int x, .int y, .int z, .ref c] 3 = some (.ref c)), c, _, rfl, .inl (SqL.of hc), _, _, rfl, rfl, _, rfl, ite2 (fun e => ?_) (fun _ => ⟨0, rfl, rfl⟩)⟩
      have e : z < ((intV ns).length : Int) := of_decide_eq_true e
      rw [List.length_map] at e
      have hz : z.toNat < ns.length := by omega
      refine ⟨_, rfl, b, _, _, _, rfl, rfl, SqL.of hb, (rfl : atI [V.int x, .int y, .int z, .ref c] 3 = some (.ref c)), _, rfl, b, _, _, _, rfl, rfl, SqL.of hb, (rfl : atI [V.int x, .int y, .int z, .ref c] 2 = some (.int z)),
        c, _, _, _, rfl, rfl, SqL.of hc, at_of (j := z.toNat) (by omega) (v := .int ns[z.toNat]) (by rw [List.getElem?_map, List.getElem?_eq_getElem hz]; rfl), _, rfl, rfl⟩
    rintro σ' H' ⟨cell, rfl, rfl⟩
    refine ⟨_, rfl, b, _, _, _, rfl, rfl, SqL.of hb, (by decide), rfl, _, _, rfl, rfl, b, _, _, 2, rfl, rfl, hb, rfl, ?_⟩
    refine ⟨fun σ' H' => ∃ x' : Int, σ' = [some (.ref b), some (.int u), some (.int cell), none, none, none, none] ∧ SB b H H' ∧ H' b = some (.lst [.int x', .int y, .int (z + 1), .ref c]), ?_, ?_⟩
    · refine ⟨_, rfl, _, _, rfl, rfl, _, rfl, ite2 (fun _ => ?_) (fun _ => ⟨x, rfl, sb_upd, upd_same⟩)⟩
      refine ⟨_, rfl, _, rfl, b, _, _, 0, rfl, rfl, upd_same, rfl, cell, rfl, sb_upd.trans sb_upd, upd_same⟩
    rintro σ' H1 ⟨x', rfl, s1, hb1⟩
    refine ⟨_, rfl, b, _, _, _, rfl, rfl, SqL.of hb1, (rfl : atI [V.int x', .int y, .int (z + 1), .ref c] 1 = some (.int y)), _, _, rfl, rfl, .inr ⟨by decide, by decide⟩,
      _, rfl, .inl ⟨_, rfl, _, _, rfl, rfl, pA, _, _, rfl, rfl, _, rfl, b, _, _, _, rfl, rfl, SqL.of hb1, (rfl : atI [V.int x', .int y, .int (z + 1), .ref c] 2 = some (.int (z + 1))), _, _, rfl, rfl, .inl ⟨by decide, by decide⟩, _, _, rfl, rfl, ?_⟩⟩
    refine ⟨_, rfl, .inl ⟨_, rfl, _, _, rfl, rfl, pA, _, rfl, b, _, _, 1, rfl, rfl, hb1, rfl, ?_⟩⟩
    exact ⟨_, _, rfl, s1.trans sb_upd, _, _, _, ns, upd_same, by rw [upd_ne cb]; exact s1 _ _ hc cb, by omega, hl⟩
  rintro σ' H1 ⟨z1, z2, rfl, s1, B1⟩
  obtain ⟨x, y, z, ns, hb, hc, z0, hl⟩ := id B1
  have cb : c ≠ b := bag_ints B1 hc
  refine ⟨fun σ' H' => σ' = [some (.ref b), some (.int u), z1, z2, none, none, none] ∧ H1 = H', ?_, ?_⟩
  · refine ⟨_, rfl, b, _, _, _, rfl, rfl, SqL.of hb, (rfl : atI [V.int x, .int y, .int z, .ref c] 0 = some (.int x)), _, _, rfl, rfl, _, rfl, ite2 (fun _ => ?_) (fun _ => ⟨rfl, rfl⟩)⟩
    have hm := emod_in x u0
    refine ⟨_, rfl, b, _, _, _, rfl, rfl, SqL.of hb, (rfl : atI [V.int x, .int y, .int z, .ref c] 0 = some (.int x)), .inl ⟨_, rfl, _, rfl, _, _, rfl, rfl, u0, ?_⟩⟩
    refine ⟨_, rfl, b, _, _, _, rfl, rfl, SqL.of hb, (rfl : atI [V.int x, .int y, .int z, .ref c] 0 = some (.int x)), .inl ⟨_, rfl, _, rfl, _, _, rfl, rfl, ⟨u0, by omega⟩, _, rfl, b, _, _, 0, rfl, rfl, hb, rfl, ?_⟩⟩
    exact ⟨_, rfl, k _ _ hm.1 hm.2 (s1.trans sb_upd) ⟨_, _, _, ns, upd_same, by rw [upd_ne cb]; exact hc, z0, hl⟩⟩
  rintro σ' H2 ⟨rfl, rfl⟩
  have h1 := emod_in ((y + 1) * 39373) (b := 1000000007) (by decide)
  refine ⟨_, rfl, b, _, _, _, rfl, rfl, SqL.of hb, (rfl : atI [V.int x, .int y, .int z, .ref c] 1 = some (.int y)), _, _, rfl, rfl, _, _, rfl, rfl, .inr ⟨by decide, by decide⟩, .inl ⟨_, rfl, _, _, rfl, rfl, pB, ?_⟩⟩
  refine ⟨_, rfl, _, rfl, _, _, rfl, rfl, .inl ⟨by omega, by omega⟩, .inl ⟨_, rfl, _, _, rfl, rfl, pC, _, _, rfl, rfl, .inr ⟨by decide, by decide⟩, .inl ⟨_, rfl, _, _, rfl, rfl, pC, ?_⟩⟩⟩
  refine ⟨_, rfl, _, _, rfl, rfl, ⟨by decide, by decide⟩, .inl ⟨_, rfl, _, rfl, _, _, rfl, rfl, u0, ?_⟩⟩
  have hm := emod_in (((((y + 1) * 39373 % 1000000007) * ((y + 1) * 39373 % 1000000007) % 998244353 * 30011) % 998244353) / 7) u0
  exact k _ _ hm.1 hm.2 s1 B1
end
end K47

/-! K47L2: what the law builds: numbers, pairs of files, calls, lists of calls. -/
namespace K47
open PySem PySem.Spec PyProof.Rows L2
theorem cut2 (f g : Int) (r : List Int) : cutV (intV (f :: g :: r)) none (some 2) = [.int f, .int g] := by
  have h1 : HT.sIx (intV (f :: g :: r)).length (intV (f :: g :: r)).length (some 2) = 2 := by
    have := HT.sIx_nat (intV (f :: g :: r)).length (intV (f :: g :: r)).length 2
    rw [show (2 : Int) = ((2 : Nat) : Int) from rfl, this, List.length_map, List.length_cons, List.length_cons]
    omega
  unfold cutV
  rw [h1, HT.sIx_none]
  rfl
/-- the items put in at a place -/
theorem ins_facts {ms ts : List Int} {t : Int} {i r : Nat} (nd : ts.Nodup) (hm : ms.Nodup) (hl : ms.length = i) (hsub : ∀ m ∈ ms, m ∈ ts.take i) (ht : ts[i]? = some t) :
    (ms.take r ++ [t] ++ ms.drop r).Nodup ∧ (ms.take r ++ [t] ++ ms.drop r).length = i + 1 ∧ ∀ m ∈ ms.take r ++ [t] ++ ms.drop r, m ∈ ts.take (i + 1) := by
  obtain ⟨hi, hg⟩ := List.getElem?_eq_some_iff.mp ht
  have fresh : t ∉ ms := fun h => by
    have := hsub t h
    obtain ⟨j, hj, e⟩ := List.mem_iff_getElem.mp this
    rw [List.length_take] at hj
    rw [List.getElem_take, ← hg] at e
    have := (List.getElem_inj nd).mp e
    omega
  have split : ms.take r ++ ms.drop r = ms := List.take_append_drop _ _
  refine ⟨?_, ?_, fun m h => ?_⟩
  · have perm : (ms.take r ++ [t] ++ ms.drop r).Perm (t :: ms) := by
      rw [List.append_assoc]
      conv => rhs; rw [← split]
      exact List.perm_middle
    exact perm.nodup_iff.mpr (List.nodup_cons.mpr ⟨fresh, hm⟩)
  · have := congrArg List.length split
    rw [List.length_append] at this
    rw [List.length_append, List.length_append, List.length_singleton]
    omega
  · rw [List.take_add_one, ht, List.mem_append]
    rcases List.mem_append.mp h with h | h
    · rcases List.mem_append.mp h with h | h
      · exact .inl (hsub m (List.mem_of_mem_take h))
      · exact .inr (by simpa using h)
    · exact .inl (hsub m (List.mem_of_mem_drop h))
section
variable {P : Program} {w : World} {K : PySem.W.Frag} {mg : Str → Option Value} {base : Heap} {C aN aF aO : Addr} {eF eO : Array DictEntry} {nF nO : Nat}
def spOne : Sp := fun vs H Q _ => ∃ (b c l : Addr) (as : List Addr), vs = [.ref b, .ref l] ∧ BagAt H b c ∧ H l = some (.lst (refs as)) ∧ 0 < as.length ∧ as.length < 1000 ∧ ∀ (a : Addr) (H' : Hp), a ∈ as → SB b H H' → BagAt H' b c → Q (.ref a) H'
abbrev st__law_one : Stmt := top 45
abbrev ps__law_one : List Str := ["_law_bag_here", "_law_some"]
abbrev N__law_one : List Str := ["_law_bag_here", "_law_some"]
theorem sc__law_one : FnScope N__law_one ps__law_one (defScope st__law_one) := ⟨rfl, rfl, rfl, by decide +kernel, rfl, by decide +kernel, by decide +kernel⟩
theorem d_law_one (F : FunAt K mg "_law_one" "_law_one" st__law_one ps__law_one) (T : Txt K mg w C aN aF aO eF eO nF nO) (D__law_take : Def P w K mg base "_law_take" 1 spTake) : Def P w K mg base "_law_one" 2 spOne := by
  refine def_of F sc__law_one (fun vs H Q E h => ?_) (fun f cdv A outer s H vs Q E hr h => ?_)
  · obtain ⟨_, _, _, _, rfl, _⟩ := h
    rfl
  obtain ⟨b, c, l, as, rfl, B, hl, n0, n1, k⟩ := h
  have nd := sc__law_one.nd
  have lb := bag_refs B hl
  refine ⟨_, (pss_one (ps_ret (pe_ix ix_list (pv 1) (pe_callD D__law_take (hr.mono (by decide)) (by rfl) (pa_cons (pv 0) (pa_cons (pe_callB call_len_seq (by rfl) T.len PySem.boot_len (pa_cons (pv 1) pa_nil)) pa_nil))) (fun _ _ => rfl)))), ?_⟩
  refine ⟨_, rfl, _, rfl, _, rfl, l, _, rfl, .inl (SqL.of hl), b, c, _, rfl, B, by rw [List.length_map]; omega, by rw [List.length_map]; omega, fun r H' r0 r1 s1 B1 => ?_⟩
  rw [List.length_map] at r1
  have hr : r.toNat < as.length := by omega
  exact ⟨l, _, _, _, rfl, rfl, SqL.of (s1 _ _ hl lb), at_of (j := r.toNat) (by omega) (v := .ref as[r.toNat]) (by rw [List.getElem?_map, List.getElem?_eq_getElem hr]; rfl), k _ _ (List.getElem_mem hr) s1 B1⟩
def spMixed : Sp := fun vs H Q _ => ∃ (b c l : Addr) (ts : List Int), vs = [.ref b, .ref l] ∧ BagAt H b c ∧ H l = some (.lst (intV ts)) ∧ ts.Nodup ∧ ts.length ≤ 3 ∧
  ∀ (p : Addr) (ms : List Int) (H' : Hp), SB b H H' → BagAt H' b c → H' p = some (.lst (intV ms)) → ms.Nodup → ms.length = ts.length → (∀ m ∈ ms, m ∈ ts) → Q (.ref p) H'
abbrev st__law_mixed : Stmt := top 46
abbrev ps__law_mixed : List Str := ["_law_bag_here", "_law_things"]
abbrev N__law_mixed : List Str := ["_law_bag_here", "_law_things", "_law_found", "_law_thing"]
theorem sc__law_mixed : FnScope N__law_mixed ps__law_mixed (defScope st__law_mixed) := ⟨rfl, rfl, rfl, by decide +kernel, rfl, by decide +kernel, by decide +kernel⟩
theorem d_law_mixed (F : FunAt K mg "_law_mixed" "_law_mixed" st__law_mixed ps__law_mixed) (T : Txt K mg w C aN aF aO eF eO nF nO) (D__law_take : Def P w K mg base "_law_take" 1 spTake) : Def P w K mg base "_law_mixed" 2 spMixed := by
  refine def_of F sc__law_mixed (fun vs H Q E h => ?_) (fun f cdv A outer s H vs Q E hr h => ?_)
  · obtain ⟨_, _, _, _, rfl, _⟩ := h
    rfl
  obtain ⟨b, c, l, ts, rfl, B, hl, tn, t3, k⟩ := h
  have nd := sc__law_mixed.nd
  have line : sizeLine = 16777216 := sizeLine_eq
  have lb := bag_ints B hl
  refine ⟨_, (pss_cons (ps_set (i := 2) nd rfl (Or.inl rfl) (pe_lst pa_nil))
    (pss_cons (ps_for PassesOwn.never rfl (pi_list (pv 1)) (pg_name (i := 3) nd rfl (Or.inl rfl))
    (pss_one (ps_expr (pe_bm PySem.F.plainAttrs_list PySem.F.slot_list_insert PySem.F.type_list_insert mt_insert (pv 2) (pa_cons (pe_callD D__law_take (hr.mono (by decide)) (by rfl) (pa_cons (pv 0) (pa_cons (pe_op op_add (pe_callB call_len_seq (by rfl) T.len PySem.boot_len (pa_cons (pv 2) pa_nil)) pe_int) pa_nil))) (pa_cons (pv 3) pa_nil))))))
    (pss_one (ps_ret (pv 2))))), ?_⟩
  refine ⟨Nat.zero_le _, fun Fl nF => ?_⟩
  obtain ⟨Fb, Fc⟩ := bag_new B nF
  refine ⟨_, rfl, l, rfl, ⟨_, SqL.of (nx nF hl)⟩, for_list (K := K) (a := l) (xs := intV ts)
    (fun i σ H' => ∃ (z : Option V) (ms : List Int), σ = [some (.ref b), some (.ref l), some (.ref Fl), z] ∧ SB b H H' ∧ BagAt H' b c ∧ H' Fl = some (.lst (intV ms)) ∧ ms.Nodup ∧ ms.length = i ∧ ∀ m ∈ ms, m ∈ ts.take i)
    ⟨none, [], rfl, sb_same (same_new nF), B.mono (same_new nF), upd_same, List.nodup_nil, rfl, fun _ z => nomatch z⟩ (fun i σ H' _ ⟨_, _, _, s1, _⟩ => SqL.of (s1 _ _ hl lb)) ?_ ?_⟩
  · rintro i y σ H1 hy ⟨z, ms, rfl, s1, B1, hF, m1, m2, m3⟩
    obtain ⟨t, ht, rfl⟩ : ∃ t, ts[i]? = some t ∧ V.int t = y := by
      rw [List.getElem?_map] at hy
      exact Option.map_eq_some_iff.mp hy
    have hi := (List.getElem?_eq_some_iff.mp ht).1
    refine ⟨_, rfl, .inl ⟨rfl, _, SqL.of hF⟩, _, rfl, _, rfl, Fl, _, rfl, .inl (SqL.of hF), _, _, rfl, rfl, b, c, _, rfl, B1, by rw [List.length_map]; omega, by rw [List.length_map]; omega, fun r H2 r0 r1 s2 B2 => ?_⟩
    have hF2 := s2 _ _ hF Fb
    obtain ⟨f1, f2, f3⟩ := ins_facts (r := r.toNat) tn m1 m2 m3 ht
    refine ⟨_, rfl, Fl, _, r, _, rfl, rfl, hF2, by rw [List.length_map]; omega, r0, ?_, ?_⟩
    · rw [List.length_map] at r1
      omega
    refine ⟨_, ms.take r.toNat ++ [t] ++ ms.drop r.toNat, rfl, SB.mut (s1.trans s2) nF, B2.upd Fb Fc, ?_, f1, f2, f3⟩
    rw [upd_same]
    congr 2
    simp [intV]
  · rintro σ H1 ⟨z, ms, rfl, s1, B1, hF, m1, m2, m3⟩
    rw [List.length_map] at m2 m3
    rw [List.take_length] at m3
    exact ⟨_, rfl, k Fl ms H1 s1 B1 hF m1 m2 m3⟩
def spPair : Sp := fun vs H Q _ => ∃ (b c : Addr) (n : Int), vs = [.ref b, .int n] ∧ BagAt H b c ∧ FilesOk n ∧
  ∀ (p : Addr) (f g : Int) (H' : Hp), SB b H H' → BagAt H' b c → H' p = some (.lst [.int f, .int g]) → FileOk n f → FileOk n g → f ≠ g → Q (.ref p) H'
abbrev st__law_pair : Stmt := top 47
abbrev ps__law_pair : List Str := ["_law_bag_here", "_law_files"]
abbrev N__law_pair : List Str := ["_law_bag_here", "_law_files"]
theorem sc__law_pair : FnScope N__law_pair ps__law_pair (defScope st__law_pair) := ⟨rfl, rfl, rfl, by decide +kernel, rfl, by decide +kernel, by decide +kernel⟩
theorem d_law_pair (F : FunAt K mg "_law_pair" "_law_pair" st__law_pair ps__law_pair) (T : Txt K mg w C aN aF aO eF eO nF nO) (D__law_mixed : Def P w K mg base "_law_mixed" 2 spMixed) : Def P w K mg base "_law_pair" 3 spPair := by
  refine def_of F sc__law_pair (fun vs H Q E h => ?_) (fun f cdv A outer s H vs Q E hr h => ?_)
  · obtain ⟨_, _, _, rfl, _⟩ := h
    rfl
  obtain ⟨b, c, n, rfl, B, hn, k⟩ := h
  have nd := sc__law_pair.nd
  obtain ⟨ts, ets, tn, tl, tin⟩ : ∃ ts : List Int, rgV 0 n = intV ts ∧ ts.Nodup ∧ (ts.length : Int) = n ∧ ∀ t ∈ ts, FileOk n t := by
    rcases hn with rfl | rfl
    · exact ⟨[0, 1], rfl, by decide, rfl, by unfold FileOk; decide⟩
    · exact ⟨[0, 1, 2], rfl, by decide, rfl, by unfold FileOk; decide⟩
  have n23 : 2 ≤ n ∧ n ≤ 3 := by
    rcases hn with rfl | rfl <;> decide
  refine ⟨_, (pss_one (ps_ret (pe_slice sl_list (pe_callD D__law_mixed (hr.mono (by decide)) (by rfl) (pa_cons (pv 0) (pa_cons (pe_listRg rfl (by rfl) T.list (prg_1 (by rfl) T.range (pv 1))) pa_nil))) po_none (po_some pe_int)))), ?_⟩
  refine ⟨_, rfl, _, rfl, _, rfl, RgOk.of_le (Int.le_refl _) (by omega) (by omega) (by omega), fun q nq => ?_⟩
  rw [ets]
  refine ⟨b, c, q, ts, rfl, B.mono (same_new nq), upd_same, tn, by omega, fun p ms H1 s1 B1 hp m1 m2 m3 => ?_⟩
  obtain ⟨f1, g1, r1, rfl⟩ : ∃ f g r, ms = f :: g :: r := by
    match ms, m2 with
    | [], m2 => exact absurd m2 (by simp; omega)
    | [_], m2 => exact absurd m2 (by simp; omega)
    | f :: g :: r, _ => exact ⟨f, g, r, rfl⟩
  refine ⟨_, rfl, p, _, rfl, SqL.of hp, fun o no => ?_⟩
  rw [cut2]
  have hfg : f1 ≠ g1 := fun e => by
    rw [e] at m1
    exact (List.nodup_cons.mp m1).1 List.mem_cons_self
  exact k o f1 g1 _ (((sb_same (same_new nq)).trans s1).trans (sb_same (same_new no))) (B1.mono (same_new no)) upd_same (tin _ (m3 _ List.mem_cons_self)) (tin _ (m3 _ (List.mem_cons_of_mem _ List.mem_cons_self))) hfg
def spNumber : Sp := fun vs H Q _ => ∃ (b c : Addr), vs = [.ref b] ∧ BagAt H b c ∧ ∀ (q : Int) (H' : Hp), NumOk q → SB b H H' → BagAt H' b c → Q (.int q) H'
theorem menu8 {r : Int} (h0 : 0 ≤ r) (h1 : r < 8) : ∃ q : Int, atI [V.int 1, .int 1, .int 2, .int 1, .int 3, .int 2, .int 4, .int 5] r = some (.int q) ∧ 1 ≤ q ∧ q ≤ 5 := by
  have : r = 0 ∨ r = 1 ∨ r = 2 ∨ r = 3 ∨ r = 4 ∨ r = 5 ∨ r = 6 ∨ r = 7 := by omega
  rcases this with rfl | rfl | rfl | rfl | rfl | rfl | rfl | rfl
  · exact ⟨1, rfl, by decide, by decide⟩
  · exact ⟨1, rfl, by decide, by decide⟩
  · exact ⟨2, rfl, by decide, by decide⟩
  · exact ⟨1, rfl, by decide, by decide⟩
  · exact ⟨3, rfl, by decide, by decide⟩
  · exact ⟨2, rfl, by decide, by decide⟩
  · exact ⟨4, rfl, by decide, by decide⟩
  · exact ⟨5, rfl, by decide, by decide⟩
theorem menu2 {r : Int} (h0 : 0 ≤ r) (h1 : r < 2) : ∃ q : Int, atI [V.int 1, .int (-1)] r = some (.int q) ∧ (q = 1 ∨ q = -1) := by
  have : r = 0 ∨ r = 1 := by omega
  rcases this with rfl | rfl
  · exact ⟨1, rfl, .inl rfl⟩
  · exact ⟨-1, rfl, .inr rfl⟩
abbrev st__law_number : Stmt := top 48
abbrev ps__law_number : List Str := ["_law_bag_here"]
abbrev N__law_number : List Str := ["_law_bag_here", "_law_number_here"]
theorem sc__law_number : FnScope N__law_number ps__law_number (defScope st__law_number) := ⟨rfl, rfl, rfl, by decide +kernel, rfl, by decide +kernel, by decide +kernel⟩
theorem d_law_number (F : FunAt K mg "_law_number" "_law_number" st__law_number ps__law_number) (T : Txt K mg w C aN aF aO eF eO nF nO) (D__law_take : Def P w K mg base "_law_take" 1 spTake) : Def P w K mg base "_law_number" 2 spNumber := by
  refine def_of F sc__law_number (fun vs H Q E h => ?_) (fun f cdv A outer s H vs Q E hr h => ?_)
  · obtain ⟨_, _, rfl, _⟩ := h
    rfl
  obtain ⟨b, c, rfl, B, k⟩ := h
  have nd := sc__law_number.nd
  refine ⟨_, (pss_cons (ps_set (i := 1) nd rfl (Or.inl rfl) (pe_ix ix_list (pe_lst (pa_cons pe_int (pa_cons pe_int (pa_cons pe_int (pa_cons pe_int (pa_cons pe_int (pa_cons pe_int (pa_cons pe_int (pa_cons pe_int pa_nil))))))))) (pe_callD D__law_take (hr.mono (by decide)) (by rfl) (pa_cons (pv 0) (pa_cons pe_int pa_nil))) (fun _ _ => rfl)))
    (pss_one (ps_ret (pe_op op_mul (pv 1) (pe_ix ix_list (pe_lst (pa_cons pe_int (pa_cons (pe_un un_neg pe_int) pa_nil))) (pe_callD D__law_take (hr.mono (by decide)) (by rfl) (pa_cons (pv 0) (pa_cons pe_int pa_nil))) (fun _ _ => rfl)))))), ?_⟩
  refine ⟨by show 8 ≤ sizeLine; decide, fun p np => ?_⟩
  refine ⟨_, rfl, b, c, 8, rfl, B.mono (same_new np), by decide, by decide, fun r H1 r0 r1 s1 B1 => ?_⟩
  obtain ⟨q, hq, q1, q5⟩ := menu8 r0 r1
  have pb := (bag_new B np).1
  refine ⟨p, _, _, _, rfl, rfl, SqL.of (s1 _ _ upd_same pb), hq, ?_⟩
  refine ⟨_, rfl, _, rfl, by show 2 ≤ sizeLine; decide, fun o no => ?_⟩
  refine ⟨_, rfl, b, c, 2, rfl, B1.mono (same_new no), by decide, by decide, fun r2 H2 r20 r21 s2 B2 => ?_⟩
  obtain ⟨q2, hq2, qs⟩ := menu2 r20 r21
  have ob := (bag_new B1 no).1
  refine ⟨o, _, _, _, rfl, rfl, SqL.of (s2 _ _ upd_same ob), hq2, _, _, rfl, rfl, .inl ⟨by omega, by omega⟩, k _ _ ?_ ((((sb_same (same_new np)).trans s1).trans (sb_same (same_new no))).trans s2) B2⟩
  unfold NumOk
  rcases qs with rfl | rfl <;> omega
end
end K47

/-! K47L3: the law's calls. -/
namespace K47
open PySem PySem.Spec PyProof.Rows L2
section
variable {P : Program} {w : World} {K : PySem.W.Frag} {mg : Str → Option Value} {base : Heap} {C aN aF aO : Addr} {eF eO : Array DictEntry} {nF nO : Nat}
/-- hands back a call for n files -/
def GivesCall (b c : Addr) (n : Int) (H : Hp) (Q : VK) : Prop := ∀ (q : Addr) (cl : Cl) (H' : Hp), SB b H H' → BagAt H' b c → H' q = some (.tup (cv cl)) → OkC n cl → Q (.ref q) H'
def spCallL : Sp := fun vs H Q _ => ∃ (b c : Addr) (n : Int), vs = [.ref b, .int n] ∧ BagAt H b c ∧ FilesOk n ∧ GivesCall b c n H Q
abbrev st__law_call : Stmt := top 49
abbrev ps__law_call : List Str := ["_law_bag_here", "_law_files"]
abbrev N__law_call : List Str := ["_law_bag_here", "_law_files", "_law_way", "_law_f", "_law_g"]
theorem sc__law_call : FnScope N__law_call ps__law_call (defScope st__law_call) := ⟨rfl, rfl, rfl, by decide +kernel, rfl, by decide +kernel, by decide +kernel⟩
theorem d_law_call (F : FunAt K mg "_law_call" "_law_call" st__law_call ps__law_call) (T : Txt K mg w C aN aF aO eF eO nF nO) (D__law_take : Def P w K mg base "_law_take" 1 spTake) (D__law_pair : Def P w K mg base "_law_pair" 3 spPair)
    (D__law_number : Def P w K mg base "_law_number" 2 spNumber) : Def P w K mg base "_law_call" 4 spCallL := by
  refine def_of F sc__law_call (fun vs H Q E h => ?_) (fun f cdv A outer s H vs Q E hr h => ?_)
  · obtain ⟨_, _, _, rfl, _⟩ := h
    rfl
  obtain ⟨b, c, n, rfl, B, hn, k⟩ := h
  have nd := sc__law_call.nd
  refine ⟨_, (pss_cons (ps_asg (pe_tup (pa_cons (pe_callD D__law_take (hr.mono (by decide)) (by rfl) (pa_cons (pv 0) (pa_cons pe_int pa_nil))) (pa_cons (pe_callD D__law_pair (hr.mono (by decide)) (by rfl) (pa_cons (pv 0) (pa_cons (pv 1) pa_nil))) pa_nil))) (pg_tup rfl (pgs_cons (pg_name (i := 2) nd rfl (Or.inl rfl)) (pgs_cons (pg_unl rfl (pgs_cons (pg_name (i := 3) nd rfl (Or.inl rfl)) (pgs_cons (pg_name (i := 4) nd rfl (Or.inl rfl)) pgs_nil))) pgs_nil))))
    (pss_cons (ps_if (pt_cmpR op_lt (pv 2) pe_int (nomark _))
    (pss_one (ps_ret (pe_tup (pa_cons pe_str (pa_cons (pv 3) (pa_cons (pv 4) (pa_cons (pe_callD D__law_number (hr.mono (by decide)) (by rfl) (pa_cons (pv 0) pa_nil)) pa_nil)))))))
    pss_nil)
    (pss_cons (ps_if (pt_cmpR op_lt (pv 2) pe_int (nomark _))
    (pss_one (ps_ret (pe_tup (pa_cons pe_str (pa_cons (pv 3) (pa_cons (pe_callD D__law_number (hr.mono (by decide)) (by rfl) (pa_cons (pv 0) pa_nil)) pa_nil))))))
    pss_nil)
    (pss_cons (ps_if (pt_cmpR op_eq (pv 2) pe_int (nomark _))
    (pss_one (ps_ret (pe_tup (pa_cons pe_str (pa_cons (pe_callD D__law_number (hr.mono (by decide)) (by rfl) (pa_cons (pv 0) pa_nil)) pa_nil)))))
    pss_nil)
    (pss_one (ps_ret (pe_ix ix_list (pe_lst (pa_cons (pe_tup (pa_cons pe_str (pa_cons (pv 3) (pa_cons (pv 4) pa_nil)))) (pa_cons (pe_tup (pa_cons pe_str pa_nil)) (pa_cons (pe_tup (pa_cons pe_str (pa_cons (pv 3) (pa_cons (pv 4) pa_nil)))) pa_nil)))) (pe_op op_sub (pv 2) pe_int) (fun _ _ => rfl)))))))), ?_⟩
  refine ⟨_, rfl, b, c, 8, rfl, B, by decide, by decide, fun way H1 w0 w1 s1 B1 => ?_⟩
  refine ⟨_, rfl, _, rfl, b, c, n, rfl, B1, hn, fun q0 f g H2 s2 B2 hq hf hg hfg => ?_⟩
  refine ⟨by show 2 ≤ sizeLine; decide, fun p np => ?_⟩
  refine ⟨p, _, rfl, SqT.of upd_same, rfl, _, _, rfl, _, _, rfl, ⟨q0, _, rfl, SqL.of (nx np hq), rfl, _, _, rfl, _, _, rfl, rfl, rfl, ?_⟩⟩
  have s3 := (s1.trans s2).trans (sb_same (b := b) (same_new (o := .tup [.int way, .ref q0]) np))
  have B3 := B2.mono (same_new (o := .tup [.int way, .ref q0]) np)
  refine ⟨_, rfl, _, _, rfl, rfl, _, rfl, ite2 (fun _ => ?_) (fun e1 => ?_)⟩
  · exact ⟨_, rfl, _, rfl, _, rfl, b, c, rfl, B3, fun q H4 hq s4 B4 => ⟨by show 4 ≤ sizeLine; decide, fun t nt => k t (.wheel f g q) _ ((s3.trans s4).trans (sb_same (same_new nt))) (B4.mono (same_new nt)) upd_same ⟨hf, hg, hfg, hq⟩⟩⟩
  refine ⟨_, rfl, _, _, rfl, rfl, _, rfl, ite2 (fun _ => ?_) (fun e2 => ?_)⟩
  · exact ⟨_, rfl, _, rfl, b, c, rfl, B3, fun q H4 hq s4 B4 => ⟨by show 3 ≤ sizeLine; decide, fun t nt => k t (.up f q) _ ((s3.trans s4).trans (sb_same (same_new nt))) (B4.mono (same_new nt)) upd_same ⟨hf, hq⟩⟩⟩
  refine ⟨_, rfl, rfl, _, rfl, ite2 (fun _ => ?_) (fun e3 => ?_)⟩
  · exact ⟨_, rfl, b, c, rfl, B3, fun q H4 hq s4 B4 => ⟨by show 2 ≤ sizeLine; decide, fun t nt => k t (.all q) _ ((s3.trans s4).trans (sb_same (same_new nt))) (B4.mono (same_new nt)) upd_same hq⟩⟩
  have e2 : ¬ way < 4 := fun z => e2 (decide_eq_true z)
  have e3 : ¬ way = 4 := fun z => e3 (dI z)
  refine ⟨_, rfl, _, rfl, by show 3 ≤ sizeLine; decide, fun t1 n1 => ?_⟩
  refine ⟨by show 1 ≤ sizeLine; decide, fun t2 n2 => ?_⟩
  refine ⟨_, rfl, _, rfl, by show 3 ≤ sizeLine; decide, fun t3 n3 => ?_⟩
  refine ⟨by show 3 ≤ sizeLine; decide, fun l nl => ?_⟩
  have sm := (same_new (o := .tup [.str "swap", .int f, .int g]) n1).trans ((same_new (o := .tup [.str "about"]) n2).trans ((same_new (o := .tup [.str "front", .int f, .int g]) n3).trans (same_new (o := .lst [.ref t1, .ref t2, .ref t3]) nl)))
  have s4 := s3.trans (sb_same sm)
  have B4 := B3.mono sm
  have : way = 5 ∨ way = 6 ∨ way = 7 := by omega
  rcases this with rfl | rfl | rfl
  · exact ⟨_, rfl, _, _, rfl, rfl, l, _, _, _, rfl, rfl, SqL.of upd_same, (rfl : atI [V.ref t1, .ref t2, .ref t3] 0 = some (.ref t1)), k t1 (.swap f g) _ s4 B4 (nx nl (nx n3 (nx n2 upd_same))) ⟨hf, hg, hfg⟩⟩
  · exact ⟨_, rfl, _, _, rfl, rfl, l, _, _, _, rfl, rfl, SqL.of upd_same, (rfl : atI [V.ref t1, .ref t2, .ref t3] 1 = some (.ref t2)), k t2 .about _ s4 B4 (nx nl (nx n3 upd_same)) True.intro⟩
  · exact ⟨_, rfl, _, _, rfl, rfl, l, _, _, _, rfl, rfl, SqL.of upd_same, (rfl : atI [V.ref t1, .ref t2, .ref t3] 2 = some (.ref t3)), k t3 (.front f g) _ s4 B4 (nx nl upd_same) ⟨hf, hg, hfg⟩⟩
/-- the size of a list of calls -/
def spLSize : Sp := fun vs H Q _ => ∃ (l : Addr) (as : List Addr) (cs : List Cl), vs = [.ref l] ∧ H l = some (.lst (refs as)) ∧ CallsAt H as cs ∧ ∀ H', Same H H' → Q (.int (sizeOf cs)) H'
theorem last_num {c : Cl} (h : numC c = true) : ∃ q, atI (cv c) (-1) = some (.int q) ∧ csize c = ab q := by
  cases c with
  | all q => exact ⟨q, atI_last [.str "all"] _, rfl⟩
  | up f q => exact ⟨q, atI_last [.str "up", .int f] _, rfl⟩
  | wheel f g q => exact ⟨q, atI_last [.str "wheel", .int f, .int g] _, rfl⟩
  | swap f g => exact absurd h (show ¬ (false = true) by decide)
  | about => exact absurd h (show ¬ (false = true) by decide)
  | front f g => exact absurd h (show ¬ (false = true) by decide)
theorem size_one {c : Cl} (h : ¬ numC c = true) : csize c = 1 := by
  cases c with
  | all q => exact absurd (show numC (.all q) = true from rfl) h
  | up f q => exact absurd (show numC (.up f q) = true from rfl) h
  | wheel f g q => exact absurd (show numC (.wheel f g q) = true from rfl) h
  | swap f g => rfl
  | about => rfl
  | front f g => rfl
theorem size_snoc (cs : List Cl) (c : Cl) : sizeOf (cs ++ [c]) = sizeOf cs + csize c := by
  rw [sizeOf_append]
  congr 1
  show csize c + 0 = _
  rw [Int.add_zero]
abbrev st__law_size : Stmt := top 50
abbrev ps__law_size : List Str := ["_law_calls_here"]
abbrev N__law_size : List Str := ["_law_calls_here", "_law_found", "_law_call_here"]
theorem sc__law_size : FnScope N__law_size ps__law_size (defScope st__law_size) := ⟨rfl, rfl, rfl, by decide +kernel, rfl, by decide +kernel, by decide +kernel⟩
theorem d_law_size (F : FunAt K mg "_law_size" "_law_size" st__law_size ps__law_size) (T : Txt K mg w C aN aF aO eF eO nF nO) : Def P w K mg base "_law_size" 1 spLSize := by
  refine def_of F sc__law_size (fun vs H Q E h => ?_) (fun f cdv A outer s H vs Q E hr h => ?_)
  · obtain ⟨_, _, _, rfl, _⟩ := h
    rfl
  obtain ⟨l, as, cs, rfl, hl, hcs, k⟩ := h
  have nd := sc__law_size.nd
  refine ⟨_, (pss_cons (ps_set (i := 1) nd rfl (Or.inl rfl) pe_int)
    (pss_cons (ps_for PassesOwn.never rfl (pi_list (pv 0)) (pg_name (i := 2) nd rfl (Or.inl rfl))
    (pss_one (ps_aug (i := 1) nd rfl (Or.inl rfl) (pe_ifExp (pt_cmpR op_in_seq (pe_ix ix_tup (pv 2) pe_int (fun _ _ => rfl)) (pe_tup (pa_cons pe_str (pa_cons pe_str (pa_cons pe_str pa_nil)))) (by rfl)) (pe_callB call_abs (by rfl) T.abs (by decide +kernel) (pa_cons (pe_ix ix_tup (pv 2) (pe_un un_neg pe_int) (fun _ _ => rfl)) pa_nil)) pe_int) ip_add)))
    (pss_one (ps_ret (pv 1))))), ?_⟩
  refine ⟨_, rfl, l, rfl, ⟨_, SqL.of hl⟩, for_list (K := K) (a := l) (xs := refs as) (fun i σ H' => ∃ z : Option V, σ = [some (.ref l), some (.int (sizeOf (cs.take i))), z] ∧ Same H H') ⟨none, rfl, Same.refl _⟩ (fun i σ H' _ ⟨_, _, s1⟩ => SqL.of (s1 _ _ hl)) ?_ ?_⟩
  · rintro i y σ H1 hy ⟨z, rfl, s1⟩
    obtain ⟨a, ha, rfl⟩ : ∃ a, as[i]? = some a ∧ V.ref a = y := by
      rw [List.getElem?_map] at hy
      exact Option.map_eq_some_iff.mp hy
    obtain ⟨cl, hc, hac⟩ := paired_get hcs ha
    have hac1 := s1 _ _ hac
    refine ⟨_, rfl, _, rfl, _, _, _, _, rfl, rfl, SqT.of hac1, atI_nat (j := 0) (head_of cl), by show 3 ≤ sizeLine; decide, fun p np => ?_⟩
    have hac2 := nx (o := .tup BYN) np hac1
    have e : inV (.str (kindS cl)) BYN = numC cl := num_of cl
    have snoc : sizeOf (cs.take (i + 1)) = sizeOf (cs.take i) + csize cl := by
      rw [List.take_add_one, hc]
      exact size_snoc _ _
    refine ⟨p, BYN, rfl, .inr (SqT.of upd_same), rfl, rfl, _, rfl, ite2 (fun hb => ?_) (fun hb => ?_)⟩
    · have hb : inV (.str (kindS cl)) BYN = true := hb
      obtain ⟨q, h1, h2⟩ := last_num (e ▸ hb)
      refine ⟨_, rfl, _, rfl, _, _, _, _, rfl, rfl, SqT.of hac2, h1, _, rfl, _, _, rfl, rfl, some (.ref a), ?_, s1.trans (same_new np)⟩
      rw [snoc, h2]
      rfl
    · have hb : ¬ inV (.str (kindS cl)) BYN = true := hb
      rw [e] at hb
      refine ⟨_, _, rfl, rfl, some (.ref a), ?_, s1.trans (same_new np)⟩
      rw [snoc, size_one hb]
      rfl
  · rintro σ H1 ⟨z, rfl, s1⟩
    rw [List.length_map, hcs.length, List.take_length]
    exact ⟨_, rfl, k _ s1⟩
abbrev st__law_small : Stmt := top 51
abbrev ps__law_small : List Str := ["_law_bag_here", "_law_files"]
abbrev N__law_small : List Str := ["_law_bag_here", "_law_files", "_law_call_here"]
theorem sc__law_small : FnScope N__law_small ps__law_small (defScope st__law_small) := ⟨rfl, rfl, rfl, by decide +kernel, rfl, by decide +kernel, by decide +kernel⟩
theorem d_law_small (F : FunAt K mg "_law_small" "_law_small" st__law_small ps__law_small) (T : Txt K mg w C aN aF aO eF eO nF nO) (D__law_call : Def P w K mg base "_law_call" 4 spCallL) (D__law_size : Def P w K mg base "_law_size" 1 spLSize) :
    Def P w K mg base "_law_small" 5 spCallL := by
  refine def_of F sc__law_small (fun vs H Q E h => ?_) (fun f cdv A outer s H vs Q E hr h => ?_)
  · obtain ⟨_, _, _, rfl, _⟩ := h
    rfl
  obtain ⟨b, c, n, rfl, B, hn, k⟩ := h
  have nd := sc__law_small.nd
  refine ⟨_, (pss_cons (ps_set (i := 2) nd rfl (Or.inl rfl) (pe_callD D__law_call (hr.mono (by decide)) (by rfl) (pa_cons (pv 0) (pa_cons (pv 1) pa_nil))))
    (pss_one (ps_ret (pe_ifExp (pt_cmpR op_lt (pe_callD D__law_size (hr.mono (by decide)) (by rfl) (pa_cons (pe_lst (pa_cons (pv 2) pa_nil)) pa_nil)) pe_int (nomark _)) (pv 2) (pe_tup (pa_cons pe_str pa_nil)))))), ?_⟩
  refine ⟨_, rfl, _, rfl, b, c, n, rfl, B, hn, fun q cl H1 s1 B1 hq hok => ?_⟩
  refine ⟨_, rfl, by show 1 ≤ sizeLine; decide, fun l nl => ⟨l, [q], [cl], rfl, upd_same, .cons (nx nl hq) .nil, fun H2 s2 => ?_⟩⟩
  have s12 : SB b H H2 := (s1.trans (sb_same (same_new nl))).trans (sb_same s2)
  have B2 := (B1.mono (same_new (o := .lst [.ref q]) nl)).mono s2
  refine ⟨_, _, rfl, rfl, _, rfl, ite2 (fun _ => ?_) (fun _ => ?_)⟩
  · exact ⟨_, rfl, k q cl H2 s12 B2 (s2 _ _ (nx nl hq)) hok⟩
  · exact ⟨by show 1 ≤ sizeLine; decide, fun t nt => k t .about _ (s12.trans (sb_same (same_new nt))) (B2.mono (same_new nt)) upd_same True.intro⟩
/-- hands back a new list of at most m calls -/
def spCalls : Sp := fun vs H Q _ => ∃ (b c : Addr) (n m : Int) (z : Int), vs = [.ref b, .int n, .int m, .int z] ∧ BagAt H b c ∧ FilesOk n ∧ 0 ≤ m ∧ m ≤ 6 ∧
  ∀ (l : Addr) (as : List Addr) (cs : List Cl) (H' : Hp), SB b H H' → BagAt H' b c → H l = none → H' l = some (.lst (refs as)) → CallsAt H' as cs → (∀ d ∈ cs, OkC n d) → (cs.length : Int) ≤ m → Q (.ref l) H'
abbrev st__law_calls : Stmt := top 52
abbrev ps__law_calls : List Str := ["_law_bag_here", "_law_files", "_law_most", "_law_size_here"]
abbrev N__law_calls : List Str := ["_law_bag_here", "_law_files", "_law_most", "_law_size_here", "_law_found", "_law_k", "_law_call_here"]
theorem sc__law_calls : FnScope N__law_calls ps__law_calls (defScope st__law_calls) := ⟨rfl, rfl, rfl, by decide +kernel, rfl, by decide +kernel, by decide +kernel⟩
theorem d_law_calls (F : FunAt K mg "_law_calls" "_law_calls" st__law_calls ps__law_calls) (T : Txt K mg w C aN aF aO eF eO nF nO) (D__law_take : Def P w K mg base "_law_take" 1 spTake) (D__law_call : Def P w K mg base "_law_call" 4 spCallL)
    (D__law_size : Def P w K mg base "_law_size" 1 spLSize) : Def P w K mg base "_law_calls" 5 spCalls := by
  refine def_of F sc__law_calls (fun vs H Q E h => ?_) (fun f cdv A outer s H vs Q E hr h => ?_)
  · obtain ⟨_, _, _, _, _, rfl, _⟩ := h
    rfl
  obtain ⟨b, c, n, m, z, rfl, B, hn, m0, m6, k⟩ := h
  have nd := sc__law_calls.nd
  have line : sizeLine = 16777216 := sizeLine_eq
  refine ⟨_, (pss_cons (ps_set (i := 4) nd rfl (Or.inl rfl) (pe_lst pa_nil))
    (pss_cons (ps_for PassesOwn.never rfl (pi_range1 rfl T.range (pa_cons (pe_callD D__law_take (hr.mono (by decide)) (by rfl) (pa_cons (pv 0) (pa_cons (pe_op op_add (pv 2) pe_int) pa_nil))) pa_nil)) (pg_name (i := 5) nd rfl (Or.inl rfl))
    (pss_cons (ps_set (i := 6) nd rfl (Or.inl rfl) (pe_callD D__law_call (hr.mono (by decide)) (by rfl) (pa_cons (pv 0) (pa_cons (pv 1) pa_nil))))
      (pss_one (ps_if (pt_cmpR op_le (pe_callD D__law_size (hr.mono (by decide)) (by rfl) (pa_cons (pe_op op_cat (pv 4) (pe_lst (pa_cons (pv 6) pa_nil))) pa_nil)) (pv 3) (nomark _))
      (pss_one (ps_expr (pe_bm PySem.F.plainAttrs_list PySem.F.slot_list_append PySem.F.type_list_append mt_append (pv 4) (pa_cons (pv 6) pa_nil))))
      pss_nil))))
    (pss_one (ps_ret (pv 4))))), ?_⟩
  refine ⟨Nat.zero_le _, fun Fl nF => ?_⟩
  obtain ⟨Fb, Fc⟩ := bag_new B nF
  refine ⟨_, rfl, _, rfl, _, _, rfl, rfl, b, c, m + 1, rfl, B.mono (same_new nF), by omega, by omega, fun r H1 r0 r1 s1 B1 => ?_⟩
  refine ⟨_, rfl, by omega, by omega, for_range (lo := 0) (n := r.toNat)
    (fun i σ H' => ∃ (z1 z2 : Option V) (as : List Addr) (cs : List Cl), σ = [some (.ref b), some (.int n), some (.int m), some (.int z), some (.ref Fl), z1, z2] ∧ SB b H H' ∧ BagAt H' b c ∧ H' Fl = some (.lst (refs as)) ∧ CallsAt H' as cs ∧ (∀ d ∈ cs, OkC n d) ∧ cs.length ≤ i)
    ⟨none, none, [], [], rfl, (sb_same (same_new nF)).trans s1, B1, s1 _ _ upd_same Fb, .nil, fun _ z => (nomatch z), Nat.le_refl _⟩ ?_ ?_⟩
  · rintro i σ H2 hi ⟨z1, z2, as, cs, rfl, s2, B2, hF, hcs, hok, hlen⟩
    refine ⟨_, rfl, _, rfl, b, c, n, rfl, B2, hn, fun q cl H3 s3 B3 hq hcl => ?_⟩
    have hF3 := s3 _ _ hF Fb
    have hcs3 := s3.calls B2 hcs
    have hl := hcs.length
    refine ⟨_, rfl, _, rfl, by show 1 ≤ sizeLine; decide, fun o no => ?_⟩
    refine ⟨Fl, o, _, _, rfl, rfl, nx no hF3, upd_same, ?_, fun l nl => ?_⟩
    · rw [List.length_map, List.length_singleton]
      omega
    have so := (same_new (o := .lst [.ref q]) no).trans (same_new (o := .lst (refs as ++ [.ref q])) nl)
    refine ⟨l, as ++ [q], cs ++ [cl], rfl, ?_, paired_app (hcs3.mono so) (.cons (so _ _ hq) .nil), fun H4 s4 => ?_⟩
    · rw [upd_same, show refs (as ++ [q]) = refs as ++ [V.ref q] from List.map_append]
    have s34 := so.trans s4
    have B4 := B3.mono s34
    have s24 : SB b H H4 := (s2.trans s3).trans (sb_same s34)
    refine ⟨_, rfl, _, _, rfl, rfl, _, rfl, ite2 (fun _ => ?_) (fun _ => ?_)⟩
    · have hF4 := s34 _ _ hF3
      refine ⟨_, rfl, .inl ⟨rfl, _, SqL.of hF4⟩, _, rfl, Fl, _, _, rfl, rfl, hF4, by rw [List.length_map]; omega, ?_⟩
      have tupF : ∀ {a : Addr} {xs : List V}, H4 a = some (.tup xs) → upd H4 Fl (.lst (refs as ++ [.ref q])) a = some (.tup xs) := fun {a xs} e => by
        rw [upd_ne (ne_of e hF4 fun z => nomatch z)]
        exact e
      refine ⟨_, _, as ++ [q], cs ++ [cl], rfl, SB.mut s24 nF, B4.upd Fb Fc, ?_, paired_app (L2.Paired.mapP (hcs3.mono s34) fun _ _ e => tupF e) (.cons (tupF (s34 _ _ hq)) .nil), fun d hd => ?_, ?_⟩
      · rw [upd_same, show refs (as ++ [q]) = refs as ++ [V.ref q] from List.map_append]
      · rcases List.mem_append.mp hd with hd | hd
        · exact hok d hd
        · have e : d = cl := by simpa using hd
          rw [e]
          exact hcl
      · rw [List.length_append, List.length_singleton]
        omega
    · exact ⟨_, _, as, cs, rfl, s24, B4, s34 _ _ hF3, hcs3.mono s34, hok, by omega⟩
  · rintro σ H2 ⟨z1, z2, as, cs, rfl, s2, B2, hF, hcs, hok, hlen⟩
    exact ⟨_, rfl, k Fl as cs H2 s2 B2 nF hF hcs hok (by omega)⟩
end
end K47

/-! K47L4: the law's own steps: a call, a list of calls, the places of a line. -/
namespace K47
open PySem PySem.Spec PyProof.Rows L2
theorem dict_cross {a b f : Int} (h : a ≠ b) : (valV (mergeK [] [((Sum.inl a : Key), V.int b), ((Sum.inl b : Key), V.int a)]) (Sum.inl f)).getD (V.int f) = V.int (if f = a then b else if f = b then a else f) := by
  show (valV (putK (putK [] (Sum.inl a : Key) (V.int b)) (Sum.inl b) (V.int a)) (Sum.inl f)).getD (V.int f) = _
  rw [valV_put, valV_put, valV_nil]
  by_cases h1 : f = a
  · subst h1
    have h2 : ¬ (Sum.inl f : Key) = Sum.inl b := fun z => h (Sum.inl.inj z)
    rw [if_neg h2, if_pos rfl, if_pos rfl]
    rfl
  · have h2 : ¬ (Sum.inl f : Key) = Sum.inl a := fun z => h1 (Sum.inl.inj z)
    by_cases h3 : f = b
    · subst h3
      rw [if_pos rfl, if_neg h1, if_pos rfl]
      rfl
    · have h4 : ¬ (Sum.inl f : Key) = Sum.inl b := fun z => h3 (Sum.inl.inj z)
      rw [if_neg h4, if_neg h2, if_neg h1, if_neg h3]
      rfl
section
variable {P : Program} {w : World} {K : PySem.W.Frag} {mg : Str → Option Value} {base : Heap} {C aN aF aO : Addr} {eF eO : Array DictEntry} {nF nO : Nat}
def spRing : Sp := fun vs H Q _ => ∃ (r a b k : Int) (ap : Addr) (p : Pl), vs = [.int r, .int a, .int b, .int k, .ref ap] ∧ H ap = some (plT p) ∧ 0 < r ∧ Gives (ringC r a b k p) H Q
abbrev st__law_ring : Stmt := top 53
abbrev ps__law_ring : List Str := ["_law_rows", "_law_f", "_law_g", "_law_k", "_law_place"]
abbrev N__law_ring : List Str := ["_law_rows", "_law_f", "_law_g", "_law_k", "_law_place", "_law_seat"]
theorem sc__law_ring : FnScope N__law_ring ps__law_ring (defScope st__law_ring) := ⟨rfl, rfl, rfl, by decide +kernel, rfl, by decide +kernel, by decide +kernel⟩
theorem d_law_ring (F : FunAt K mg "_law_ring" "_law_ring" st__law_ring ps__law_ring) (T : Txt K mg w C aN aF aO eF eO nF nO) : Def P w K mg base "_law_ring" 1 spRing := by
  refine def_of F sc__law_ring (fun vs H Q E h => ?_) (fun f cdv A outer s H vs Q E hr h => ?_)
  · obtain ⟨_, _, _, _, _, _, rfl, _⟩ := h
    rfl
  obtain ⟨r, a, b, k, ap, ⟨row, file⟩, rfl, hp, hr0, go⟩ := h
  have nd := sc__law_ring.nd
  have two : (0 : Int) < 2 * r := by omega
  refine ⟨_, (pss_cons (ps_set (i := 5) nd rfl (Or.inl rfl) (pe_ifExp (pt_cmpR op_eq (pe_ix ix_tup (pv 4) pe_int (fun _ _ => rfl)) (pv 1) (nomark _)) (pe_op op_sub (pe_op op_sub (pv 0) pe_int) (pe_ix ix_tup (pv 4) pe_int (fun _ _ => rfl))) (pe_op op_add (pv 0) (pe_ix ix_tup (pv 4) pe_int (fun _ _ => rfl)))))
    (pss_cons (ps_set (i := 5) nd rfl (Or.inl rfl) (pe_op op_mod (pe_callTy call_int1 (by rfl) T.int (by decide +kernel) (pa_cons (pe_op op_add (pv 5) (pv 3)) pa_nil)) (pe_callTy call_int1 (by rfl) T.int (by decide +kernel) (pa_cons (pe_op op_mul pe_int (pv 0)) pa_nil))))
    (pss_one (ps_ret (pe_ifExp (pt_cmpR op_lt (pv 5) (pv 0) (nomark _)) (pe_tup (pa_cons (pe_op op_sub (pe_op op_sub (pv 0) pe_int) (pv 5)) (pa_cons (pv 1) pa_nil))) (pe_tup (pa_cons (pe_op op_sub (pv 5) (pv 0)) (pa_cons (pv 2) pa_nil)))))))), ?_⟩
  refine ⟨_, rfl, _, _, _, _, rfl, rfl, SqT.of hp, (rfl : atI [V.int row, .int file] 1 = some (.int file)), _, rfl, rfl, _, rfl, ite2 (fun e2 => ?_) (fun e2 => ?_)⟩
  · have e2 : file = a := V.int.inj (of_decide_eq_true e2)
    rw [ring_eq (s0 := r - 1 - row) (by rw [if_pos e2])] at go
    refine ⟨_, rfl, _, _, rfl, rfl, _, rfl, _, _, _, _, rfl, rfl, SqT.of hp, (rfl : atI [V.int row, .int file] 0 = some (.int row)), _, _, rfl, rfl, ?_⟩
    refine ⟨_, rfl, _, rfl, _, _, rfl, rfl, .inl ⟨_, rfl, _, rfl, _, _, rfl, rfl, .inl ⟨by decide, by decide⟩, .inl ⟨_, rfl, _, _, rfl, rfl, two, ?_⟩⟩⟩
    refine ⟨_, rfl, _, rfl, _, _, rfl, rfl, _, rfl, ite2 (fun e3 => ?_) (fun e3 => ?_)⟩
    · rw [if_pos (of_decide_eq_true e3)] at go
      exact ⟨_, rfl, _, _, rfl, rfl, _, rfl, _, _, rfl, rfl, _, rfl, by show 2 ≤ sizeLine; decide, fun q nq => go _ _ (same_new nq) upd_same⟩
    · rw [if_neg fun z => e3 (decide_eq_true z)] at go
      exact ⟨_, rfl, _, rfl, _, _, rfl, rfl, _, rfl, by show 2 ≤ sizeLine; decide, fun q nq => go _ _ (same_new nq) upd_same⟩
  · have e2 : ¬ file = a := fun z => e2 (dI z)
    rw [ring_eq (s0 := r + row) (by rw [if_neg e2])] at go
    refine ⟨_, rfl, _, rfl, _, _, _, _, rfl, rfl, SqT.of hp, (rfl : atI [V.int row, .int file] 0 = some (.int row)), _, _, rfl, rfl, ?_⟩
    refine ⟨_, rfl, _, rfl, _, _, rfl, rfl, .inl ⟨_, rfl, _, rfl, _, _, rfl, rfl, .inl ⟨by decide, by decide⟩, .inl ⟨_, rfl, _, _, rfl, rfl, two, ?_⟩⟩⟩
    refine ⟨_, rfl, _, rfl, _, _, rfl, rfl, _, rfl, ite2 (fun e3 => ?_) (fun e3 => ?_)⟩
    · rw [if_pos (of_decide_eq_true e3)] at go
      exact ⟨_, rfl, _, _, rfl, rfl, _, rfl, _, _, rfl, rfl, _, rfl, by show 2 ≤ sizeLine; decide, fun q nq => go _ _ (same_new nq) upd_same⟩
    · rw [if_neg fun z => e3 (decide_eq_true z)] at go
      exact ⟨_, rfl, _, rfl, _, _, rfl, rfl, _, rfl, by show 2 ≤ sizeLine; decide, fun q nq => go _ _ (same_new nq) upd_same⟩
def spLed : Sp := fun vs H Q _ => ∃ (n r : Int) (ac ap : Addr) (c : Cl) (p : Pl), vs = [.int n, .int r, .ref ac, .ref ap] ∧ OkC n c ∧ H ac = some (.tup (cv c)) ∧ H ap = some (plT p) ∧ InLine n r p ∧ Gives (stepC n r p c) H Q
abbrev st__law_led : Stmt := top 54
abbrev ps__law_led : List Str := ["_law_files", "_law_rows", "_law_call_here", "_law_place"]
abbrev N__law_led : List Str := ["_law_files", "_law_rows", "_law_call_here", "_law_place", "_law_row", "_law_file", "_law_kind"]
theorem sc__law_led : FnScope N__law_led ps__law_led (defScope st__law_led) := ⟨rfl, rfl, rfl, by decide +kernel, rfl, by decide +kernel, by decide +kernel⟩
theorem d_law_led (F : FunAt K mg "_law_led" "_law_led" st__law_led ps__law_led) (T : Txt K mg w C aN aF aO eF eO nF nO) (D__law_ring : Def P w K mg base "_law_ring" 1 spRing) : Def P w K mg base "_law_led" 2 spLed := by
  refine def_of F sc__law_led (fun vs H Q E h => ?_) (fun f cdv A outer s H vs Q E hr h => ?_)
  · obtain ⟨_, _, _, _, _, _, rfl, _⟩ := h
    rfl
  obtain ⟨n, r, ac, ap, c, ⟨row, file⟩, rfl, ok, hc, hp, hin, go⟩ := h
  have nd := sc__law_led.nd
  have hr0 : 0 < r := by
    obtain ⟨h1, h2, _⟩ := hin
    exact Int.lt_of_le_of_lt h1 h2
  refine ⟨_, (pss_cons (ps_asg (pv 3) (pg_tup rfl (pgs_cons (pg_name (i := 4) nd rfl (Or.inl rfl)) (pgs_cons (pg_name (i := 5) nd rfl (Or.inl rfl)) pgs_nil))))
    (pss_cons (ps_set (i := 6) nd rfl (Or.inl rfl) (pe_ix ix_tup (pv 2) pe_int (fun _ _ => rfl)))
    (pss_cons (ps_if (PW.pt (pw_or (pt_cmpR op_eq (pv 6) pe_str (nomark _)) (pw_or1 (PW.pt (pw_and (pt_cmpR op_eq (pv 6) pe_str (nomark _)) (pw_and1 (pt_cmpR op_eq (pv 5) (pe_ix ix_tup (pv 2) pe_int (fun _ _ => rfl)) (nomark _))))))))
    (pss_one (ps_ret (pe_tup (pa_cons (pe_op op_mod (pe_callTy call_int1 (by rfl) T.int (by decide +kernel) (pa_cons (pe_op op_sub (pv 4) (pe_ix ix_tup (pv 2) (pe_un un_neg pe_int) (fun _ _ => rfl))) pa_nil)) (pe_callTy call_int1 (by rfl) T.int (by decide +kernel) (pa_cons (pv 1) pa_nil))) (pa_cons (pv 5) pa_nil)))))
    pss_nil)
    (pss_cons (ps_if (PW.pt (pw_or (pt_cmpR op_eq (pv 6) pe_str (nomark _)) (pw_or1 (PW.pt (pw_and (pt_cmpR op_eq (pv 6) pe_str (nomark _)) (pw_and1 (pt_cmpR op_eq (pv 4) pe_int (nomark _))))))))
    (pss_one (ps_ret (pe_tup (pa_cons (pv 4) (pa_cons (pe_dget2 (hu_of hr) (pe_callTy (call_dictP rfl) (by rfl) T.dict (by decide +kernel) (pa_cons (pe_lst (pa_cons (pe_tup (pa_cons (pe_ix ix_tup (pv 2) pe_int (fun _ _ => rfl)) (pa_cons (pe_ix ix_tup (pv 2) pe_int (fun _ _ => rfl)) pa_nil))) (pa_cons (pe_tup (pa_cons (pe_ix ix_tup (pv 2) pe_int (fun _ _ => rfl)) (pa_cons (pe_ix ix_tup (pv 2) pe_int (fun _ _ => rfl)) pa_nil))) pa_nil))) pa_nil)) (pv 5) (pv 5) ⟨rfl, rfl, rfl, rfl⟩) pa_nil)))))
    pss_nil)
    (pss_cons (ps_if (PW.pt (pw_and (pt_cmpR op_eq (pv 6) pe_str (nomark _)) (pw_and1 (pt_cmpR op_in_seq (pv 5) (pe_slice sl_tup (pv 2) (po_some pe_int) (po_some pe_int)) (by rfl)))))
    (pss_one (ps_ret (pe_callD D__law_ring (hr.mono (by decide)) (by rfl) (pa_cons (pv 1) (pa_cons (pe_ix ix_tup (pv 2) pe_int (fun _ _ => rfl)) (pa_cons (pe_ix ix_tup (pv 2) pe_int (fun _ _ => rfl)) (pa_cons (pe_ix ix_tup (pv 2) pe_int (fun _ _ => rfl)) (pa_cons (pv 3) pa_nil))))))))
    pss_nil)
    (pss_cons (ps_if (pt_cmpR op_eq (pv 6) pe_str (nomark _))
    (pss_one (ps_ret (pe_tup (pa_cons (pe_op op_sub (pe_op op_sub (pv 1) pe_int) (pv 4)) (pa_cons (pe_op op_sub (pe_op op_sub (pv 0) pe_int) (pv 5)) pa_nil)))))
    pss_nil)
    (pss_one (ps_ret (pv 3))))))))), ?_⟩
  refine ⟨_, rfl, ap, _, rfl, SqT.of hp, rfl, _, _, rfl, _, _, rfl, rfl, ?_⟩
  cases c with
  | all k =>
    refine ⟨_, rfl, _, _, _, _, rfl, rfl, SqT.of hc, (rfl : atI (cv (.all k)) 0 = some (.str "all")), ?_⟩
    refine ⟨_, rfl, rfl, _, rfl, iteY (by decide +kernel) ?_⟩
    refine iteT ?_
    exact ⟨_, rfl, _, rfl, _, rfl, _, _, _, _, rfl, rfl, SqT.of hc, (rfl : atI (cv (.all k)) (-1) = some (.int k)), _, _, rfl, rfl, .inl ⟨_, rfl, _, rfl, .inl ⟨_, rfl, _, _, rfl, rfl, hr0, _, rfl, by show 2 ≤ sizeLine; decide, fun q nq => go _ _ (same_new nq) upd_same⟩⟩⟩
  | up g k =>
    refine ⟨_, rfl, _, _, _, _, rfl, rfl, SqT.of hc, (rfl : atI (cv (.up g k)) 0 = some (.str "up")), ?_⟩
    refine ⟨_, rfl, rfl, _, rfl, iteN (by decide +kernel) ?_⟩
    refine ⟨_, rfl, rfl, _, rfl, iteY (by decide +kernel) ?_⟩
    refine ⟨_, rfl, _, rfl, _, _, _, _, rfl, rfl, SqT.of hc, (rfl : atI (cv (.up g k)) 1 = some (.int g)), rfl, _, rfl, ite2 (fun e => ?_) (fun e => ?_)⟩
    · have e : file = g := V.int.inj (of_decide_eq_true e)
      rw [show stepC n r (row, file) (.up g k) = ((row - k) % r, file) from if_pos e] at go
      exact ⟨_, rfl, _, rfl, _, rfl, _, _, _, _, rfl, rfl, SqT.of hc, (rfl : atI (cv (.up g k)) (-1) = some (.int k)), _, _, rfl, rfl, .inl ⟨_, rfl, _, rfl, .inl ⟨_, rfl, _, _, rfl, rfl, hr0, _, rfl, by show 2 ≤ sizeLine; decide, fun q nq => go _ _ (same_new nq) upd_same⟩⟩⟩
    · have e : ¬ file = g := fun z => e (dI z)
      rw [show stepC n r (row, file) (.up g k) = (row, file) from if_neg e] at go
      refine ⟨_, rfl, rfl, _, rfl, iteN (by decide +kernel) ?_⟩
      refine ⟨_, rfl, rfl, _, rfl, iteN (by decide +kernel) ?_⟩
      refine iteF ?_
      refine ⟨_, rfl, rfl, _, rfl, iteN (by decide +kernel) ?_⟩
      refine iteF ?_
      refine ⟨_, rfl, rfl, _, rfl, iteN (by decide +kernel) ?_⟩
      exact ⟨_, rfl, go _ _ (Same.refl _) hp⟩
  | swap a b =>
    refine ⟨_, rfl, _, _, _, _, rfl, rfl, SqT.of hc, (rfl : atI (cv (.swap a b)) 0 = some (.str "swap")), ?_⟩
    refine ⟨_, rfl, rfl, _, rfl, iteN (by decide +kernel) ?_⟩
    refine ⟨_, rfl, rfl, _, rfl, iteN (by decide +kernel) ?_⟩
    refine iteF ?_
    refine ⟨_, rfl, rfl, _, rfl, iteY (by decide +kernel) ?_⟩
    refine iteT ?_
    have go : Gives (crossC a b (row, file)) H Q := go
    refine ⟨_, rfl, _, rfl, _, _, _, _, rfl, rfl, SqT.of hc, (rfl : atI (cv (.swap a b)) 1 = some (.int a)), _, rfl, _, _, _, _, rfl, rfl, SqT.of hc, (rfl : atI (cv (.swap a b)) 2 = some (.int b)), by show 2 ≤ sizeLine; decide, fun t1 n1 => ?_⟩
    have hc1 := nx (o := .tup [.int a, .int b]) n1 hc
    refine ⟨_, rfl, _, _, _, _, rfl, rfl, SqT.of hc1, (rfl : atI (cv (.swap a b)) 2 = some (.int b)), _, rfl, _, _, _, _, rfl, rfl, SqT.of hc1, (rfl : atI (cv (.swap a b)) 1 = some (.int a)), by show 2 ≤ sizeLine; decide, fun t2 n2 => ?_⟩
    refine ⟨by show 2 ≤ sizeLine; decide, fun l nl => ?_⟩
    have sl := (same_new (o := .tup [.int a, .int b]) n1).trans ((same_new (o := .tup [.int b, .int a]) n2).trans (same_new (o := .lst [.ref t1, .ref t2]) nl))
    refine ⟨l, [t1, t2], [((Sum.inl a : Key), V.int b), ((Sum.inl b : Key), V.int a)], rfl, SqL.of upd_same, .cons (SqT.of (nx nl (nx n2 upd_same))) (.cons (SqT.of (nx nl upd_same)) .nil), fun d ndd => ?_⟩
    refine ⟨d, rfl, .inl ⟨_, .inl upd_same⟩, _, rfl, _, rfl, _, DGet.k (k := Sum.inl file) upd_same, ?_⟩
    rw [dict_cross ok.2.2]
    exact ⟨by show 2 ≤ sizeLine; decide, fun q nq => go _ _ ((sl.trans (same_new ndd)).trans (same_new nq)) upd_same⟩
  | front a b =>
    refine ⟨_, rfl, _, _, _, _, rfl, rfl, SqT.of hc, (rfl : atI (cv (.front a b)) 0 = some (.str "front")), ?_⟩
    refine ⟨_, rfl, rfl, _, rfl, iteN (by decide +kernel) ?_⟩
    refine ⟨_, rfl, rfl, _, rfl, iteN (by decide +kernel) ?_⟩
    refine iteF ?_
    refine ⟨_, rfl, rfl, _, rfl, iteN (by decide +kernel) ?_⟩
    refine ⟨_, rfl, rfl, _, rfl, iteY (by decide +kernel) ?_⟩
    refine ⟨_, rfl, rfl, _, rfl, ite2 (fun e4 => ?_) (fun e4 => ?_)⟩
    · have e4 : row = 0 := V.int.inj (of_decide_eq_true e4)
      have go : Gives (crossC a b (row, file)) H Q := by
        rw [show stepC n r (row, file) (.front a b) = crossC a b (row, file) from if_pos e4] at go
        exact go
      refine ⟨_, rfl, _, rfl, _, _, _, _, rfl, rfl, SqT.of hc, (rfl : atI (cv (.front a b)) 1 = some (.int a)), _, rfl, _, _, _, _, rfl, rfl, SqT.of hc, (rfl : atI (cv (.front a b)) 2 = some (.int b)), by show 2 ≤ sizeLine; decide, fun t1 n1 => ?_⟩
      have hc1 := nx (o := .tup [.int a, .int b]) n1 hc
      refine ⟨_, rfl, _, _, _, _, rfl, rfl, SqT.of hc1, (rfl : atI (cv (.front a b)) 2 = some (.int b)), _, rfl, _, _, _, _, rfl, rfl, SqT.of hc1, (rfl : atI (cv (.front a b)) 1 = some (.int a)), by show 2 ≤ sizeLine; decide, fun t2 n2 => ?_⟩
      refine ⟨by show 2 ≤ sizeLine; decide, fun l nl => ?_⟩
      have sl := (same_new (o := .tup [.int a, .int b]) n1).trans ((same_new (o := .tup [.int b, .int a]) n2).trans (same_new (o := .lst [.ref t1, .ref t2]) nl))
      refine ⟨l, [t1, t2], [((Sum.inl a : Key), V.int b), ((Sum.inl b : Key), V.int a)], rfl, SqL.of upd_same, .cons (SqT.of (nx nl (nx n2 upd_same))) (.cons (SqT.of (nx nl upd_same)) .nil), fun d ndd => ?_⟩
      refine ⟨d, rfl, .inl ⟨_, .inl upd_same⟩, _, rfl, _, rfl, _, DGet.k (k := Sum.inl file) upd_same, ?_⟩
      rw [dict_cross ok.2.2]
      exact ⟨by show 2 ≤ sizeLine; decide, fun q nq => go _ _ ((sl.trans (same_new ndd)).trans (same_new nq)) upd_same⟩
    · have e4 : ¬ row = 0 := fun z => e4 (dI z)
      rw [show stepC n r (row, file) (.front a b) = (row, file) from if_neg e4] at go
      refine ⟨_, rfl, rfl, _, rfl, iteN (by decide +kernel) ?_⟩
      refine iteF ?_
      refine ⟨_, rfl, rfl, _, rfl, iteN (by decide +kernel) ?_⟩
      exact ⟨_, rfl, go _ _ (Same.refl _) hp⟩
  | wheel a b k =>
    refine ⟨_, rfl, _, _, _, _, rfl, rfl, SqT.of hc, (rfl : atI (cv (.wheel a b k)) 0 = some (.str "wheel")), ?_⟩
    refine ⟨_, rfl, rfl, _, rfl, iteN (by decide +kernel) ?_⟩
    refine ⟨_, rfl, rfl, _, rfl, iteN (by decide +kernel) ?_⟩
    refine iteF ?_
    refine ⟨_, rfl, rfl, _, rfl, iteN (by decide +kernel) ?_⟩
    refine ⟨_, rfl, rfl, _, rfl, iteN (by decide +kernel) ?_⟩
    refine iteF ?_
    refine ⟨_, rfl, rfl, _, rfl, iteY (by decide +kernel) ?_⟩
    refine ⟨_, rfl, _, rfl, _, rfl, _, rfl, ac, _, rfl, SqT.of hc, (by show ¬ (HT.sIx 4 0 (some 1) = 0 ∧ HT.sIx 4 4 (some 3) = 4); decide), fun p np => ?_⟩
    have sp := same_new (o := .tup (cutV (cv (.wheel a b k)) (some 1) (some 3))) np
    have hc' := sp _ _ hc
    have hp' := sp _ _ hp
    refine ⟨p, [.int a, .int b], rfl, .inr (SqT.of upd_same), rfl, rfl, _, rfl, ite2 (fun e => ?_) (fun e => ?_)⟩
    · have e : inV (.int file) [.int a, .int b] = true := e
      rw [in2] at e
      rw [show stepC n r (row, file) (.wheel a b k) = ringC r a b k (row, file) from if_pos (of_decide_eq_true e)] at go
      exact ⟨_, rfl, _, rfl, _, _, _, _, rfl, rfl, SqT.of hc', (rfl : atI (cv (.wheel a b k)) 1 = some (.int a)), _, rfl, _, _, _, _, rfl, rfl, SqT.of hc', (rfl : atI (cv (.wheel a b k)) 2 = some (.int b)), _, rfl, _, _, _, _, rfl, rfl, SqT.of hc', (rfl : atI (cv (.wheel a b k)) 3 = some (.int k)), _, rfl, r, a, b, k, ap, (row, file), rfl, hp', hr0, fun q H' s1 hq => go q H' (sp.trans s1) hq⟩
    · have e : ¬ inV (.int file) [.int a, .int b] = true := e
      rw [in2] at e
      rw [show stepC n r (row, file) (.wheel a b k) = (row, file) from if_neg fun z => e (decide_eq_true z)] at go
      refine ⟨_, rfl, rfl, _, rfl, iteN (by decide +kernel) ?_⟩
      exact ⟨_, rfl, go _ _ sp hp'⟩
  | about =>
    refine ⟨_, rfl, _, _, _, _, rfl, rfl, SqT.of hc, (rfl : atI (cv (.about)) 0 = some (.str "about")), ?_⟩
    refine ⟨_, rfl, rfl, _, rfl, iteN (by decide +kernel) ?_⟩
    refine ⟨_, rfl, rfl, _, rfl, iteN (by decide +kernel) ?_⟩
    refine iteF ?_
    refine ⟨_, rfl, rfl, _, rfl, iteN (by decide +kernel) ?_⟩
    refine ⟨_, rfl, rfl, _, rfl, iteN (by decide +kernel) ?_⟩
    refine iteF ?_
    refine ⟨_, rfl, rfl, _, rfl, iteN (by decide +kernel) ?_⟩
    refine iteF ?_
    refine ⟨_, rfl, rfl, _, rfl, iteY (by decide +kernel) ?_⟩
    exact ⟨_, rfl, _, _, rfl, rfl, _, rfl, _, _, rfl, rfl, _, rfl, _, _, rfl, rfl, _, rfl, _, _, rfl, rfl, by show 2 ≤ sizeLine; decide, fun q nq => go _ _ (same_new nq) upd_same⟩
end
end K47

/-! K47L5: the law's walk through lines; calls turned back. -/
namespace K47
open PySem PySem.Spec PyProof.Rows L2
/-- calls at as, in a list at l -/
def ListAt (H : Hp) (l : Addr) (as : List Addr) (cs : List Cl) : Prop := H l = some (.lst (refs as)) ∧ CallsAt H as cs
theorem ListAt.mono {H H' : Hp} {l : Addr} {as : List Addr} {cs : List Cl} (e : Same H H') (h : ListAt H l as cs) : ListAt H' l as cs := ⟨e _ _ h.1, h.2.mono e⟩
def negC : Cl → Cl
  | .all k => .all (-k)
  | .up f k => .up f (-k)
  | .wheel f g k => .wheel f g (-k)
  | c => c
theorem neg_ok {n : Int} : ∀ {c : Cl}, OkC n c → OkC n (negC c)
  | .all k, h => by
    obtain ⟨_, _, _⟩ := (h : NumOk k)
    show NumOk (-k)
    unfold NumOk
    omega
  | .up f k, h => by
    obtain ⟨hf, _, _, _⟩ := (h : FileOk n f ∧ NumOk k)
    refine ⟨hf, ?_⟩
    show NumOk (-k)
    unfold NumOk
    omega
  | .wheel f g k, h => by
    obtain ⟨hf, hg, hn, _, _, _⟩ := (h : FileOk n f ∧ FileOk n g ∧ f ≠ g ∧ NumOk k)
    refine ⟨hf, hg, hn, ?_⟩
    show NumOk (-k)
    unfold NumOk
    omega
  | .swap f g, h => h
  | .about, h => h
  | .front f g, h => h
theorem neg_same {c : Cl} (h : ¬ numC c = true) : negC c = c := by
  cases c with
  | all q => exact absurd (show numC (.all q) = true from rfl) h
  | up f q => exact absurd (show numC (.up f q) = true from rfl) h
  | wheel f g q => exact absurd (show numC (.wheel f g q) = true from rfl) h
  | swap f g => rfl
  | about => rfl
  | front f g => rfl
/-- all but the last part, the last part, what the neg is -/
theorem neg_parts {c : Cl} (h : numC c = true) : ∃ q, atI (cv c) (-1) = some (.int q) ∧ cutV (cv c) none (some (-1)) ++ [.int (-q)] = cv (negC c) ∧ cutV (cv c) none (some (-1)) ≠ [] ∧
    ¬ (HT.sIx (cv c).length 0 none = 0 ∧ HT.sIx (cv c).length (cv c).length (some (-1)) = (cv c).length) ∧ (cutV (cv c) none (some (-1))).length ≤ 4 := by
  cases c with
  | all q => exact ⟨q, atI_last [.str "all"] _, rfl, (by show [V.str "all"] ≠ []; exact List.cons_ne_nil _ _), (by show ¬ (HT.sIx 2 0 none = 0 ∧ HT.sIx 2 2 (some (-1)) = 2); decide), (by show 1 ≤ 4; decide)⟩
  | up f q => exact ⟨q, atI_last [.str "up", .int f] _, rfl, (by show [V.str "up", V.int f] ≠ []; exact List.cons_ne_nil _ _), (by show ¬ (HT.sIx 3 0 none = 0 ∧ HT.sIx 3 3 (some (-1)) = 3); decide), (by show 2 ≤ 4; decide)⟩
  | wheel f g q => exact ⟨q, atI_last [.str "wheel", .int f, .int g] _, rfl, (by show [V.str "wheel", V.int f, V.int g] ≠ []; exact List.cons_ne_nil _ _), (by show ¬ (HT.sIx 4 0 none = 0 ∧ HT.sIx 4 4 (some (-1)) = 4); decide), (by show 3 ≤ 4; decide)⟩
  | swap f g => exact absurd h (show ¬ (false = true) by decide)
  | about => exact absurd h (show ¬ (false = true) by decide)
  | front f g => exact absurd h (show ¬ (false = true) by decide)
theorem paired_rev {α β : Type} {F : α → β → Prop} : ∀ {l : List α} {m : List β}, Paired F l m → Paired F l.reverse m.reverse
  | _, _, .nil => .nil
  | _, _, .cons r t => by
    rw [List.reverse_cons, List.reverse_cons]
    exact paired_app (paired_rev t) (.cons r .nil)
abbrev PlsAt (H : Hp) (ps : List Addr) (qs : List Pl) : Prop := Paired (fun a p => H a = some (plT p)) ps qs
theorem pls_mono {H H' : Hp} {ps : List Addr} {qs : List Pl} (e : Same H H') (h : PlsAt H ps qs) : PlsAt H' ps qs := L2.Paired.mapP h fun _ _ q => e _ _ q
theorem pls_upd {H : Hp} {ps : List Addr} {qs : List Pl} {F : Addr} {xs : List V} {o : HO} (hF : H F = some (.lst xs)) (h : PlsAt H ps qs) : PlsAt (upd H F o) ps qs := L2.Paired.mapP h fun _ _ e => by
  rw [upd_ne (ne_of e hF fun z => nomatch z)]
  exact e

section
variable {P : Program} {w : World} {K : PySem.W.Frag} {mg : Str → Option Value} {base : Heap} {C aN aF aO : Addr} {eF eO : Array DictEntry} {nF nO : Nat}
def spDone : Sp := fun vs H Q _ => ∃ (n r : Int) (l ap : Addr) (as : List Addr) (cs : List Cl) (p : Pl), vs = [.int n, .int r, .ref l, .ref ap] ∧ ListAt H l as cs ∧ (∀ c ∈ cs, OkC n c) ∧ H ap = some (plT p) ∧ InLine n r p ∧ Gives (runC n r cs p) H Q
abbrev st__law_done : Stmt := top 55
abbrev ps__law_done : List Str := ["_law_files", "_law_rows", "_law_calls_here", "_law_place"]
abbrev N__law_done : List Str := ["_law_files", "_law_rows", "_law_calls_here", "_law_place", "_law_call_here"]
theorem sc__law_done : FnScope N__law_done ps__law_done (defScope st__law_done) := ⟨rfl, rfl, rfl, by decide +kernel, rfl, by decide +kernel, by decide +kernel⟩
theorem d_law_done (F : FunAt K mg "_law_done" "_law_done" st__law_done ps__law_done) (T : Txt K mg w C aN aF aO eF eO nF nO) (D__law_led : Def P w K mg base "_law_led" 2 spLed) : Def P w K mg base "_law_done" 3 spDone := by
  refine def_of F sc__law_done (fun vs H Q E h => ?_) (fun f cdv A outer s H vs Q E hr h => ?_)
  · obtain ⟨_, _, _, _, _, _, _, rfl, _⟩ := h
    rfl
  obtain ⟨n, r, l, ap, as, cs, p, rfl, ⟨hl, hcs⟩, hok, hp, hin, go⟩ := h
  have nd := sc__law_done.nd
  refine ⟨_, (pss_cons (ps_for PassesOwn.never rfl (pi_list (pv 2)) (pg_name (i := 4) nd rfl (Or.inl rfl))
    (pss_one (ps_set (i := 3) nd rfl (Or.inl rfl) (pe_callD D__law_led (hr.mono (by decide)) (by rfl) (pa_cons (pv 0) (pa_cons (pv 1) (pa_cons (pv 4) (pa_cons (pv 3) pa_nil))))))))
    (pss_one (ps_ret (pv 3)))), ?_⟩
  refine ⟨_, rfl, l, rfl, ⟨_, SqL.of hl⟩, for_list (K := K) (a := l) (xs := refs as) (fun i σ H' => ∃ (q : Addr) (z : Option V), σ = [some (.int n), some (.int r), some (.ref l), some (.ref q), z] ∧ Same H H' ∧ H' q = some (plT (runC n r (cs.take i) p)))
    ⟨ap, none, rfl, Same.refl _, hp⟩ (fun i σ H' _ ⟨_, _, _, s1, _⟩ => SqL.of (s1 _ _ hl)) ?_ ?_⟩
  · rintro i y σ H1 hy ⟨q, z, rfl, s1, hq⟩
    obtain ⟨a, ha, rfl⟩ : ∃ a, as[i]? = some a ∧ V.ref a = y := by
      rw [List.getElem?_map] at hy
      exact Option.map_eq_some_iff.mp hy
    obtain ⟨c, hc, hac⟩ := paired_get hcs ha
    have hqin : InLine n r (runC n r (cs.take i) p) := run_in hin fun d hd => hok d (List.mem_of_mem_take hd)
    refine ⟨_, rfl, _, rfl, _, rfl, _, rfl, n, r, a, q, c, _, rfl, hok c (List.mem_of_getElem? hc), s1 _ _ hac, hq, hqin, fun q' H2 s2 hq' => ⟨q', _, rfl, s1.trans s2, ?_⟩⟩
    rw [List.take_add_one, hc]
    show _ = some (plT (runC n r (List.take i cs ++ [c]) p))
    rw [run_snoc]
    exact hq'
  · rintro σ H1 ⟨q, z, rfl, s1, hq⟩
    rw [List.length_map, hcs.length, List.take_length] at hq
    exact ⟨_, rfl, go q H1 s1 hq⟩
def spPlaces : Sp := fun vs H Q _ => ∃ n r : Int, vs = [.int n, .int r] ∧ FilesOk n ∧ RowsOk r ∧ ∀ (l : Addr) (ps : List Addr) (qs : List Pl) (H' : Hp), Same H H' → H' l = some (.lst (refs ps)) → PlsAt H' ps qs → (∀ p, p ∈ qs ↔ InLine n r p) → Q (.ref l) H'
abbrev st__law_places : Stmt := top 56
abbrev ps__law_places : List Str := ["_law_files", "_law_rows"]
abbrev N__law_places : List Str := ["_law_files", "_law_rows", "_law_found", "_law_row", "_law_file"]
theorem sc__law_places : FnScope N__law_places ps__law_places (defScope st__law_places) := ⟨rfl, rfl, rfl, by decide +kernel, rfl, by decide +kernel, by decide +kernel⟩
theorem d_law_places (F : FunAt K mg "_law_places" "_law_places" st__law_places ps__law_places) (T : Txt K mg w C aN aF aO eF eO nF nO) : Def P w K mg base "_law_places" 1 spPlaces := by
  refine def_of F sc__law_places (fun vs H Q E h => ?_) (fun f cdv A outer s H vs Q E hr h => ?_)
  · obtain ⟨_, _, rfl, _⟩ := h
    rfl
  obtain ⟨n, r, rfl, hn, ⟨r1, r2⟩, go⟩ := h
  have nd := sc__law_places.nd
  have line : sizeLine = 16777216 := sizeLine_eq
  have n3 : 0 < n ∧ n ≤ 3 := by
    rcases hn with rfl | rfl <;> decide
  refine ⟨_, (pss_cons (ps_set (i := 2) nd rfl (Or.inl rfl) (pe_lst pa_nil))
    (pss_cons (ps_for PassesOwn.never rfl (pi_range1 rfl T.range (pa_cons (pv 1) pa_nil)) (pg_name (i := 3) nd rfl (Or.inr rfl))
    (pss_one (ps_expr (pe_bm PySem.F.plainAttrs_list PySem.F.slot_list_extend PySem.F.type_list_extend mt_extend (pv 2) (pa_cons (pe_lc (own := [("_law_file", 4)]) (g := gName 4) (tt := tYes) rfl nd (pi_range1 rfl T.range (pa_cons (pv 0) pa_nil)) (blkOk_by (N := N__law_places) (sc := defScope st__law_places) (by decide +kernel)) (fun _ _ _ _ _ => pg_name (i := 4) nd rfl (Or.inl rfl)) (fun _ _ _ _ _ => pts_nil) (fun _ _ _ _ _ => (pe_tup (pa_cons (pv 3) (pa_cons (pv 4) pa_nil))))) pa_nil)))))
    (pss_one (ps_ret (pv 2))))), ?_⟩
  refine ⟨Nat.zero_le _, fun Fl nF => ?_⟩
  refine ⟨_, rfl, _, rfl, by omega, by omega, for_range (lo := 0) (n := r.toNat)
    (fun i σ H' => ∃ (z : Option V) (ps : List Addr) (qs : List Pl), σ = [some (.int n), some (.int r), some (.ref Fl), z, none] ∧ Same H H' ∧ H' Fl = some (.lst (refs ps)) ∧ PlsAt H' ps qs ∧ ps.length ≤ 3 * i ∧ ∀ p, p ∈ qs ↔ (0 ≤ p.1 ∧ p.1 < (i : Int) ∧ 0 ≤ p.2 ∧ p.2 < n))
    ⟨none, [], [], rfl, same_new nF, upd_same, .nil, Nat.le_refl _, fun p => ⟨fun z => (nomatch z), fun ⟨h1, h2, _⟩ => absurd (Int.lt_of_le_of_lt h1 h2) (Int.lt_irrefl _)⟩⟩ ?_ ?_⟩
  · rintro i σ H1 hi ⟨z, ps, qs, rfl, s1, hF, hP, hlen, hmem⟩
    refine ⟨_, rfl, .inl ⟨rfl, _, SqL.of hF⟩, _, rfl, _, rfl, by omega, by omega, fun D nD => lc_range (lo := 0) (n := n.toNat)
      (fun j H2 => ∃ (os : List Addr) (ts : List Pl), Same H1 H2 ∧ H2 D = some (.lst (refs os)) ∧ PlsAt H2 os ts ∧ os.length = j ∧ ∀ p, p ∈ ts ↔ (p.1 = (i : Int) ∧ 0 ≤ p.2 ∧ p.2 < (j : Int)))
      ⟨[], [], same_new nD, upd_same, .nil, rfl, fun p => ⟨fun z => (nomatch z), fun ⟨_, h1, h2⟩ => absurd (Int.lt_of_le_of_lt h1 h2) (Int.lt_irrefl _)⟩⟩ ?_ ?_⟩
    · rintro j H2 hj ⟨os, ts, s2, hD, hO, hol, ht⟩
      refine ⟨rfl, _, rfl, _, rfl, by show 2 ≤ sizeLine; decide, fun t nt => ⟨_, nx nt hD, ?_, os ++ [t], ts ++ [((i : Int), (j : Int))], Same.mut (s2.trans (same_new nt)) nD, ?_, ?_, ?_, fun p => ?_⟩⟩
      · rw [List.length_map]
        omega
      · rw [upd_same, show refs (os ++ [t]) = refs os ++ [V.ref t] from List.map_append]
      · refine pls_upd (nx nt hD) (paired_app (pls_mono (same_new nt) hO) (.cons ?_ .nil))
        rw [upd_same]
        show some (HO.tup [V.int (0 + (i : Int)), V.int (0 + (j : Int))]) = some (HO.tup [V.int (i : Int), V.int (j : Int)])
        rw [Int.zero_add, Int.zero_add]
      · rw [List.length_append, hol, List.length_singleton]
      · rw [List.mem_append, ht]
        obtain ⟨a, c⟩ := p
        constructor
        · rintro (⟨h1, h2, h3⟩ | h)
          · exact ⟨h1, h2, by show c < ((j + 1 : Nat) : Int); have h3 : c < (j : Int) := h3; omega⟩
          · have e : (a, c) = ((i : Int), (j : Int)) := by simpa using h
            have e1 : a = (i : Int) := congrArg Prod.fst e
            have e2 : c = (j : Int) := congrArg Prod.snd e
            exact ⟨e1, by show 0 ≤ c; omega, by show c < ((j + 1 : Nat) : Int); omega⟩
        · rintro ⟨h1, h2, h3⟩
          have h1 : a = (i : Int) := h1
          have h3 : c < ((j + 1 : Nat) : Int) := h3
          by_cases e : c = (j : Int)
          · exact .inr (by rw [h1, e]; simp)
          · exact .inl ⟨h1, h2, by show c < (j : Int); omega⟩
    · rintro H2 ⟨os, ts, s2, hD, hO, hol, ht⟩
      have hF2 := s2 _ _ hF
      have DF : D ≠ Fl := (ne_of_none hF nD).symm
      refine ⟨Fl, D, _, _, rfl, rfl, hF2, hD, by rw [List.length_map, List.length_map]; omega, ?_⟩
      refine ⟨_, ps ++ os, qs ++ ts, rfl, Same.mut (s1.trans s2) nF, ?_, pls_upd hF2 (paired_app (pls_mono s2 hP) hO), ?_, fun p => ?_⟩
      · rw [upd_same, show refs (ps ++ os) = refs ps ++ refs os from List.map_append]
      · rw [List.length_append]
        omega
      · rw [List.mem_append, hmem, ht, Int.toNat_of_nonneg (by omega)]
        obtain ⟨a, c⟩ := p
        constructor
        · rintro (⟨h1, h2, h3, h4⟩ | ⟨h1, h3, h4⟩)
          · exact ⟨h1, by show a < ((i + 1 : Nat) : Int); have h2 : a < (i : Int) := h2; omega, h3, h4⟩
          · have h1 : a = (i : Int) := h1
            exact ⟨by show 0 ≤ a; omega, by show a < ((i + 1 : Nat) : Int); omega, h3, h4⟩
        · rintro ⟨h1, h2, h3, h4⟩
          have h2 : a < ((i + 1 : Nat) : Int) := h2
          by_cases e : a = (i : Int)
          · exact .inr ⟨e, h3, h4⟩
          · exact .inl ⟨h1, by show a < (i : Int); omega, h3, h4⟩
  · rintro σ H1 ⟨z, ps, qs, rfl, s1, hF, hP, hlen, hmem⟩
    refine ⟨_, rfl, go Fl ps qs H1 s1 hF hP fun p => ?_⟩
    rw [hmem, Int.toNat_of_nonneg (by omega)]
    exact Iff.rfl
def spBack : Sp := fun vs H Q _ => ∃ (n : Int) (l : Addr) (as : List Addr) (cs : List Cl), vs = [.ref l] ∧ ListAt H l as cs ∧ (∀ c ∈ cs, OkC n c) ∧ cs.length ≤ 6 ∧
  ∀ (l' : Addr) (bs : List Addr) (ds : List Cl) (H' : Hp), Same H H' → H l' = none → ListAt H' l' bs ds → (∀ d ∈ ds, OkC n d) → ds.length = cs.length → Q (.ref l') H'
abbrev st__law_back : Stmt := top 57
abbrev ps__law_back : List Str := ["_law_calls_here"]
abbrev N__law_back : List Str := ["_law_calls_here", "_law_found", "_law_call_here"]
theorem sc__law_back : FnScope N__law_back ps__law_back (defScope st__law_back) := ⟨rfl, rfl, rfl, by decide +kernel, rfl, by decide +kernel, by decide +kernel⟩
theorem d_law_back (F : FunAt K mg "_law_back" "_law_back" st__law_back ps__law_back) (T : Txt K mg w C aN aF aO eF eO nF nO) : Def P w K mg base "_law_back" 1 spBack := by
  refine def_of F sc__law_back (fun vs H Q E h => ?_) (fun f cdv A outer s H vs Q E hr h => ?_)
  · obtain ⟨_, _, _, _, rfl, _⟩ := h
    rfl
  obtain ⟨n, l, as, cs, rfl, ⟨hl, hcs⟩, hok, h6, go⟩ := h
  have nd := sc__law_back.nd
  have line : sizeLine = 16777216 := sizeLine_eq
  have hrev := paired_rev hcs
  have hlen := hcs.length
  refine ⟨_, (pss_cons (ps_set (i := 1) nd rfl (Or.inl rfl) (pe_lst pa_nil))
    (pss_cons (ps_for PassesOwn.never rfl (pi_list (pe_revL (pv 0))) (pg_name (i := 2) nd rfl (Or.inl rfl))
    (pss_one (ps_expr (pe_bm PySem.F.plainAttrs_list PySem.F.slot_list_append PySem.F.type_list_append mt_append (pv 1) (pa_cons (pe_ifExp (pt_cmpR op_in_seq (pe_ix ix_tup (pv 2) pe_int (fun _ _ => rfl)) (pe_tup (pa_cons pe_str (pa_cons pe_str (pa_cons pe_str pa_nil)))) (by rfl)) (pe_op op_catT (pe_slice sl_tup (pv 2) po_none (po_some (pe_un un_neg pe_int))) (pe_tup (pa_cons (pe_un un_neg (pe_ix ix_tup (pv 2) (pe_un un_neg pe_int) (fun _ _ => rfl))) pa_nil))) (pv 2)) pa_nil)))))
    (pss_one (ps_ret (pv 1))))), ?_⟩
  refine ⟨Nat.zero_le _, fun Fl nF => ?_⟩
  refine ⟨_, rfl, l, _, rfl, SqL.of (nx nF hl), fun r nr => ?_⟩
  rw [show (refs as).reverse = refs as.reverse from List.map_reverse.symm]
  have Fr : Fl ≠ r := ne_of_none upd_same nr
  have nr0 : H r = none := (nxn nr).1
  have rF : r ≠ Fl := Fr.symm
  refine ⟨r, rfl, ⟨_, SqL.of upd_same⟩, for_list (K := K) (a := r) (xs := refs as.reverse)
    (fun i σ H' => ∃ (z : Option V) (bs : List Addr), σ = [some (.ref l), some (.ref Fl), z] ∧ (∀ b u, upd H r (.lst (refs as.reverse)) b = some u → H' b = some u) ∧ H' Fl = some (.lst (refs bs)) ∧ CallsAt H' bs ((cs.reverse.take i).map negC))
    ⟨none, [], rfl, fun b u e => ?_, nx nr upd_same, .nil⟩ (fun i σ H' _ ⟨_, _, _, kp, _⟩ => SqL.of (kp _ _ upd_same)) ?_ ?_⟩
  · by_cases hb : b = r
    · rw [hb, upd_same] at e
      rw [hb, upd_same]
      exact e
    · rw [upd_ne hb] at e
      rw [upd_ne hb]
      exact nx nF e
  · rintro i y σ H1 hy ⟨z, bs, rfl, kp, hF, hB⟩
    obtain ⟨a, ha, rfl⟩ : ∃ a, as.reverse[i]? = some a ∧ V.ref a = y := by
      rw [List.getElem?_map] at hy
      exact Option.map_eq_some_iff.mp hy
    obtain ⟨c, hc, hac⟩ := paired_get hrev ha
    have nF' : upd H r (.lst (refs as.reverse)) Fl = none := by
      rw [upd_ne Fr]
      exact nF
    have hac1 : H1 a = some (.tup (cv c)) := kp _ _ (nx nr0 hac)
    have hbl := hB.length
    have hci : (cs.reverse.take (i + 1)).map negC = (cs.reverse.take i).map negC ++ [negC c] := take_map_succ hc
    have li : i < cs.length := by
      have := (List.getElem?_eq_some_iff.mp hc).1
      rwa [List.length_reverse] at this
    rw [List.length_map, List.length_take] at hbl
    -- the turn's end: q holds the call
    have fin : ∀ (q : Addr) (H2 : Hp), Same H1 H2 → H2 q = some (.tup (cv (negC c))) → (∃ (z : Option V) (bs' : List Addr), [some (V.ref l), some (V.ref Fl), some (V.ref a)] = [some (V.ref l), some (V.ref Fl), z] ∧
        (∀ b u, upd H r (.lst (refs as.reverse)) b = some u → upd H2 Fl (.lst (refs bs ++ [.ref q])) b = some u) ∧ upd H2 Fl (.lst (refs bs ++ [.ref q])) Fl = some (.lst (refs bs')) ∧ CallsAt (upd H2 Fl (.lst (refs bs ++ [.ref q]))) bs' ((cs.reverse.take (i + 1)).map negC)) := by
      intro q H2 s2 hq
      have hF2 := s2 _ _ hF
      have tupF : ∀ {a : Addr} {xs : List V}, H2 a = some (.tup xs) → upd H2 Fl (.lst (refs bs ++ [.ref q])) a = some (.tup xs) := fun {a xs} e => by
        rw [upd_ne (ne_of e hF2 fun z => nomatch z)]
        exact e
      refine ⟨_, bs ++ [q], rfl, fun b u e => ?_, ?_, ?_⟩
      · have hb : b ≠ Fl := ne_of_none e nF'
        rw [upd_ne hb]
        exact s2 _ _ (kp _ _ e)
      · rw [upd_same, show refs (bs ++ [q]) = refs bs ++ [V.ref q] from List.map_append]
      · rw [hci]
        exact paired_app (L2.Paired.mapP (hB.mono s2) fun _ _ e => tupF e) (.cons (tupF hq) .nil)
    have e : inV (.str (kindS c)) BYN = numC c := num_of c
    refine ⟨_, rfl, .inl ⟨rfl, _, SqL.of hF⟩, _, rfl, _, _, _, _, rfl, rfl, SqT.of hac1, atI_nat (j := 0) (head_of c), by show 3 ≤ sizeLine; decide, fun p np => ?_⟩
    have sp := same_new (o := .tup BYN) np
    refine ⟨p, BYN, rfl, .inr (SqT.of upd_same), rfl, rfl, _, rfl, ite2 (fun hb => ?_) (fun hb => ?_)⟩
    · have hb : inV (.str (kindS c)) BYN = true := hb
      obtain ⟨q, h1, h2, h3, h4, h5⟩ := neg_parts (e ▸ hb)
      refine ⟨_, rfl, _, rfl, _, rfl, a, _, rfl, SqT.of (sp _ _ hac1), h4, fun o no => ?_⟩
      have so := sp.trans (same_new (o := .tup (cutV (cv c) none (some (-1)))) no)
      refine ⟨_, rfl, _, rfl, _, _, _, _, rfl, rfl, SqT.of (so _ _ hac1), h1, _, rfl, by show 1 ≤ sizeLine; decide, fun t nt => ?_⟩
      have st := so.trans (same_new (o := .tup [.int (-q)]) nt)
      refine ⟨o, t, _, _, rfl, rfl, SqT.of (nx nt upd_same), SqT.of upd_same, h3, ?_, fun z => (nomatch z), fun _ v nv => ?_⟩
      · rw [List.length_singleton]
        omega
      have sv := st.trans (same_new (o := .tup (cutV (cv c) none (some (-1)) ++ [.int (-q)])) nv)
      refine ⟨Fl, _, _, rfl, rfl, sv _ _ hF, by rw [List.length_map]; omega, fin v _ sv ?_⟩
      rw [upd_same, h2]
    · have hb : ¬ inV (.str (kindS c)) BYN = true := hb
      rw [e] at hb
      refine ⟨_, rfl, Fl, _, _, rfl, rfl, sp _ _ hF, by rw [List.length_map]; omega, fin a _ sp ?_⟩
      rw [neg_same hb]
      exact sp _ _ hac1
  · rintro σ H1 ⟨z, bs, rfl, kp, hF, hB⟩
    rw [List.length_map, hrev.length, List.take_length] at hB
    refine ⟨_, rfl, go Fl bs _ H1 (fun b u h => kp _ _ (nx nr0 h)) nF ⟨hF, hB⟩ (fun d hd => ?_) ?_⟩
    · obtain ⟨c, hc, rfl⟩ := List.mem_map.mp hd
      exact neg_ok (hok c (List.mem_reverse.mp hc))
    · rw [List.length_map, List.length_reverse]
def spPartedL : Sp := fun vs H Q _ => ∃ (n m : Int) (l1 l2 : Addr) (as bs : List Addr) (cs ds : List Cl), vs = [.int n, .ref l1, .ref l2, .int m] ∧ FilesOk n ∧ ListAt H l1 as cs ∧ ListAt H l2 bs ds ∧ (∀ c ∈ cs, OkC n c) ∧ (∀ c ∈ ds, OkC n c) ∧ 0 ≤ m ∧ m ≤ 1000 ∧ NoneIf (SameTo n cs ds m) H Q
abbrev st__law_parted : Stmt := top 58
abbrev ps__law_parted : List Str := ["_law_files", "_law_calls_here", "_law_others", "_law_most"]
abbrev N__law_parted : List Str := ["_law_files", "_law_calls_here", "_law_others", "_law_most", "_law_rows", "_law_place"]
theorem sc__law_parted : FnScope N__law_parted ps__law_parted (defScope st__law_parted) := ⟨rfl, rfl, rfl, by decide +kernel, rfl, by decide +kernel, by decide +kernel⟩
theorem d_law_parted (F : FunAt K mg "_law_parted" "_law_parted" st__law_parted ps__law_parted) (T : Txt K mg w C aN aF aO eF eO nF nO) (D__law_places : Def P w K mg base "_law_places" 1 spPlaces) (D__law_done : Def P w K mg base "_law_done" 3 spDone) :
    Def P w K mg base "_law_parted" 4 spPartedL := by
  refine def_of F sc__law_parted (fun vs H Q E h => ?_) (fun f cdv A outer s H vs Q E hr h => ?_)
  · obtain ⟨_, _, _, _, _, _, _, _, rfl, _⟩ := h
    rfl
  obtain ⟨n, m, l1, l2, as, bs, cs, ds, rfl, hn, L1, L2', ok1, ok2, m0, m1, go⟩ := h
  have nd := sc__law_parted.nd
  refine ⟨_, (pss_cons (ps_for PassesOwn.never rfl (pi_range2 rfl T.range (pa_cons pe_int (pa_cons (pe_op op_add (pv 3) pe_int) pa_nil))) (pg_name (i := 4) nd rfl (Or.inl rfl))
    (pss_one (ps_for PassesOwn.never rfl (pi_list (pe_callD D__law_places (hr.mono (by decide)) (by rfl) (pa_cons (pv 0) (pa_cons (pv 4) pa_nil)))) (pg_name (i := 5) nd rfl (Or.inl rfl))
      (pss_one (ps_if (pt_cmpR (op_neD hr.units) (pe_callD D__law_done (hr.mono (by decide)) (by rfl) (pa_cons (pv 0) (pa_cons (pv 4) (pa_cons (pv 1) (pa_cons (pv 5) pa_nil))))) (pe_callD D__law_done (hr.mono (by decide)) (by rfl) (pa_cons (pv 0) (pa_cons (pv 4) (pa_cons (pv 2) (pa_cons (pv 5) pa_nil))))) (nomark _))
        (pss_one (ps_ret (pe_tup (pa_cons (pv 4) (pa_cons (pv 5) pa_nil)))))
        pss_nil)))))
    (pss_one (ps_ret pe_non))), ?_⟩
  refine ⟨_, rfl, _, _, rfl, rfl, 1, m + 1, rfl, ⟨by omega, by omega, by omega, by omega⟩, for_range (lo := 1) (n := (m + 1 - 1).toNat)
    (fun i σ H' => ∃ z1 z2 : Option V, σ = [some (.int n), some (.ref l1), some (.ref l2), some (.int m), z1, z2] ∧ Same H H' ∧ ∀ r : Int, 1 ≤ r → r < 1 + (i : Int) → SameLine n cs ds r) ⟨none, none, rfl, Same.refl _, fun r h1 h2 => by omega⟩ ?_ ?_⟩
  · rintro i σ H1 hi ⟨z1, z2, rfl, s1, hj⟩
    refine ⟨_, rfl, _, rfl, n, 1 + (i : Int), rfl, hn, ⟨by omega, by omega⟩, fun l ps qs H2 s2 hl hP hmem => ⟨l, rfl, ⟨_, SqL.of hl⟩, for_list (K := K) (a := l) (xs := refs ps)
      (fun j σ H' => ∃ z2 : Option V, σ = [some (.int n), some (.ref l1), some (.ref l2), some (.int m), some (.int (1 + (i : Int))), z2] ∧ Same H2 H' ∧ ∀ p ∈ qs.take j, SameAt n cs ds (1 + (i : Int)) p)
      ⟨z2, rfl, Same.refl _, fun _ z => nomatch z⟩ (fun j σ H' _ ⟨_, _, s3, _⟩ => SqL.of (s3 _ _ hl)) ?_ ?_⟩⟩
    · rintro j y σ H3 hy ⟨z2, rfl, s3, hq⟩
      obtain ⟨a, ha, rfl⟩ : ∃ a, ps[j]? = some a ∧ V.ref a = y := by
        rw [List.getElem?_map] at hy
        exact Option.map_eq_some_iff.mp hy
      obtain ⟨p, hp, hap⟩ := paired_get hP ha
      have hin : InLine n (1 + (i : Int)) p := (hmem p).mp (List.mem_of_getElem? hp)
      have s13 := s1.trans (s2.trans s3)
      refine ⟨_, rfl, _, rfl, _, rfl, _, rfl, n, _, l1, a, as, cs, p, rfl, L1.mono s13, ok1, s3 _ _ hap, hin, fun q1 H4 s4 h1 => ?_⟩
      refine ⟨_, rfl, _, rfl, _, rfl, _, rfl, n, _, l2, a, bs, ds, p, rfl, L2'.mono (s13.trans s4), ok2, s4 _ _ (s3 _ _ hap), hin, fun q2 H5 s5 h2 => ?_⟩
      obtain ⟨e1, e2⟩ := pl_ne (K := K) (s5 _ _ h1) h2
      refine ⟨_, _, e1, e2, pl_shaped _, pl_shaped _, _, rfl, ?_⟩
      rw [pl_eqv]
      have s35 := s4.trans s5
      refine ite2 (fun e => ?_) (fun e => ?_)
      · have e : ¬ SameAt n cs ds (1 + (i : Int)) p := by
          rw [Bool.not_eq_true'] at e
          exact of_decide_eq_false e
        exact ⟨_, rfl, _, rfl, by show 2 ≤ sizeLine; decide, fun o no => go _ _ (s13.trans (s35.trans (same_new no))) ⟨fun z => (nomatch z), fun a => absurd (a _ (by omega) (by omega) _ hin) e⟩⟩
      · have e : SameAt n cs ds (1 + (i : Int)) p := by
          refine Classical.byContradiction fun z => e ?_
          rw [Bool.not_eq_true']
          exact decide_eq_false z
        refine ⟨_, rfl, s3.trans s35, fun p' hp' => ?_⟩
        rw [List.take_add_one, hp] at hp'
        rcases List.mem_append.mp hp' with h | h
        · exact hq p' h
        · have e2 : p' = p := by simpa using h
          rw [e2]
          exact e
    · rintro σ H3 ⟨z2, rfl, s3, hq⟩
      rw [List.length_map, hP.length, List.take_length] at hq
      refine ⟨_, _, rfl, s1.trans (s2.trans s3), fun r h1 h2 => ?_⟩
      rcases Int.lt_or_eq_of_le (show r ≤ 1 + (i : Int) by omega) with h | h
      · exact hj r h1 h
      · rw [h]
        exact fun p hp => hq p ((hmem p).mpr hp)
  · rintro σ H1 ⟨z1, z2, rfl, s1, hj⟩
    exact go _ _ s1 ⟨fun _ r h1 h2 => hj r h1 (by omega), fun _ => rfl⟩
def spBound : Sp := fun vs H Q _ => ∃ (l1 l2 : Addr) (as bs : List Addr) (cs ds : List Cl), vs = [.ref l1, .ref l2] ∧ ListAt H l1 as cs ∧ ListAt H l2 bs ds ∧ ∀ H', Same H H' → Q (.int (4 * max (sizeOf cs) (sizeOf ds) + 3)) H'
abbrev st__law_bound : Stmt := top 59
abbrev ps__law_bound : List Str := ["_law_calls_here", "_law_others"]
abbrev N__law_bound : List Str := ["_law_calls_here", "_law_others"]
theorem sc__law_bound : FnScope N__law_bound ps__law_bound (defScope st__law_bound) := ⟨rfl, rfl, rfl, by decide +kernel, rfl, by decide +kernel, by decide +kernel⟩
theorem d_law_bound (F : FunAt K mg "_law_bound" "_law_bound" st__law_bound ps__law_bound) (T : Txt K mg w C aN aF aO eF eO nF nO) (D__law_size : Def P w K mg base "_law_size" 1 spLSize) : Def P w K mg base "_law_bound" 2 spBound := by
  refine def_of F sc__law_bound (fun vs H Q E h => ?_) (fun f cdv A outer s H vs Q E hr h => ?_)
  · obtain ⟨_, _, _, _, _, _, rfl, _⟩ := h
    rfl
  obtain ⟨l1, l2, as, bs, cs, ds, rfl, L1, L2', k⟩ := h
  have nd := sc__law_bound.nd
  refine ⟨_, (pss_one (ps_ret (pe_op op_add (pe_op op_mul pe_int (pe_callB (call_max2 rfl) (by rfl) T.max (by decide +kernel) (pa_cons (pe_callD D__law_size (hr.mono (by decide)) (by rfl) (pa_cons (pv 0) pa_nil)) (pa_cons (pe_callD D__law_size (hr.mono (by decide)) (by rfl) (pa_cons (pv 1) pa_nil)) pa_nil)))) pe_int))), ?_⟩
  refine ⟨_, rfl, l1, as, cs, rfl, L1.1, L1.2, fun H1 s1 => ?_⟩
  have L3 := L2'.mono s1
  refine ⟨_, rfl, l2, bs, ds, rfl, L3.1, L3.2, fun H2 s2 => ?_⟩
  refine ⟨_, _, rfl, _, _, rfl, rfl, .inl ⟨by decide, by decide⟩, _, _, rfl, rfl, ?_⟩
  have em : (if sizeOf ds > sizeOf cs then sizeOf ds else sizeOf cs) = max (sizeOf cs) (sizeOf ds) := by
    rw [Int.max_def]
    split <;> split <;> omega
  rw [em]
  exact k _ (s1.trans s2)
end
end K47

/-! K47L6: lists of indexes compared; the law's choices. -/
namespace K47
open PySem PySem.Spec PyProof.Rows L2
/-- a list of indexes as data -/
def natD (js : List Nat) : List PyData := js.map fun (j : Nat) => PyData.int (j : Int)
theorem natD_all {K : PySem.W.Frag} {H : Hp} : ∀ js : List Nat, DpAll K H (natV js) (natD js)
  | [] => .nil
  | j :: js => .cons (.int _) (natD_all js)
theorem natD_at {K : PySem.W.Frag} {H : Hp} {a : Addr} {js : List Nat} (h : SqL K H a (natV js)) : Dp K H (.ref a) (.list (natD js)) := .lst h (natD_all js)
theorem natD_lay : ∀ js : List Nat, PyData.canLayAll0 (natD js) = true
  | [] => by simp [natD, PyData.canLayAll0]
  | j :: js => by
    have h := natD_lay js
    simp only [natD] at h
    simp [natD, PyData.canLayAll0, PyData.canLay0, h]
theorem natD_depth : ∀ js : List Nat, PyData.depthAll (natD js) ≤ 2
  | [] => by simp [natD, PyData.depthAll]
  | j :: js => by
    have h := natD_depth js
    simp only [natD] at h
    simp only [natD, List.map_cons, PyData.depthAll, PyData.depth]
    omega
theorem natD_shaped (js : List Nat) : SeqAt.shaped (.list (natD js)) = true := by
  have h1 := natD_depth js
  have h2 : PyData.depth (.list (natD js)) ≤ 64 := by
    simp only [PyData.depth]
    omega
  unfold SeqAt.shaped
  rw [Bool.and_eq_true]
  exact ⟨by simp only [PyData.canLay0]; exact natD_lay js, decide_eq_true h2⟩
theorem natD_eqvAll : ∀ js ks : List Nat, PyData.eqvAll (natD js) (natD ks) = decide (js = ks)
  | [], [] => by simp [natD, PyData.eqvAll]
  | [], k :: ks => by simp [natD, PyData.eqvAll]
  | j :: js, [] => by simp [natD, PyData.eqvAll]
  | j :: js, k :: ks => by
    have h := natD_eqvAll js ks
    simp only [natD] at h
    simp only [natD, List.map_cons, PyData.eqvAll, PyData.eqv, h]
    rw [Bool.eq_iff_iff, Bool.and_eq_true, beq_iff_eq, decide_eq_true_iff, decide_eq_true_iff]
    constructor
    · rintro ⟨h1, h2⟩
      rw [h2, Int.ofNat_inj.mp h1]
    · intro e
      rw [(List.cons.inj e).1]
      exact ⟨rfl, (List.cons.inj e).2⟩
theorem natD_eqv (js ks : List Nat) : PyData.eqv (.list (natD js)) (.list (natD ks)) = decide (js = ks) := by
  simp only [PyData.eqv]
  exact natD_eqvAll js ks
theorem upTo_small {n s : Nat} (hn : n ≤ 6) (hs : s ≤ 6) : (upTo n s).length ≤ 705894 := by
  refine Nat.le_trans (upTo_len n s) ?_
  have h1 : (n + 1) ^ s ≤ 7 ^ 6 := Nat.le_trans (Nat.pow_le_pow_left (by omega) s) (Nat.pow_le_pow_right (by decide) hs)
  exact Nat.le_trans (Nat.mul_le_mul hs h1) (by decide)
section
variable {P : Program} {w : World} {K : PySem.W.Frag} {mg : Str → Option Value} {base : Heap} {C aN aF aO : Addr} {eF eO : Array DictEntry} {nF nO : Nat}
def spLChoices : Sp := fun vs H Q _ => ∃ n : Nat, vs = [.int (n : Int)] ∧ n ≤ 6 ∧ GivesLists (upTo n (n + 1)) H Q
abbrev st__law_choices : Stmt := top 61
abbrev ps__law_choices : List Str := ["_law_count"]
abbrev N__law_choices : List Str := ["_law_count", "_law_found", "_law_level", "_law_size_here", "_law_longer", "_law_some", "_law_least", "_law_at"]
theorem sc__law_choices : FnScope N__law_choices ps__law_choices (defScope st__law_choices) := ⟨rfl, rfl, rfl, by decide +kernel, rfl, by decide +kernel, by decide +kernel⟩
theorem d_law_choices (F : FunAt K mg "_law_choices" "_law_choices" st__law_choices ps__law_choices) (T : Txt K mg w C aN aF aO eF eO nF nO) : Def P w K mg base "_law_choices" 1 spLChoices := by
  refine def_of F sc__law_choices (fun vs H Q E h => ?_) (fun f cdv A outer s0 H vs Q E hr h => ?_)
  · obtain ⟨_, rfl, _⟩ := h
    rfl
  obtain ⟨n, rfl, hn, go⟩ := h
  have nd := sc__law_choices.nd
  have line : sizeLine = 16777216 := sizeLine_eq
  refine ⟨_, (pss_cons (ps_par (i := 1) (j := 2) (by rfl) nd rfl rfl (by decide) rfl rfl (pa_cons (pe_lst pa_nil) (pa_cons (pe_lst (pa_cons (pe_lst pa_nil) pa_nil)) pa_nil)) (by rfl))
    (pss_cons (ps_for PassesOwn.never rfl (pi_range1 rfl T.range (pa_cons (pe_op op_add (pv 0) pe_int) pa_nil)) (pg_name (i := 3) nd rfl (Or.inl rfl))
    (pss_cons (ps_set (i := 1) nd rfl (Or.inl rfl) (pe_op op_cat (pv 1) (pv 2)))
      (pss_cons (ps_set (i := 4) nd rfl (Or.inl rfl) (pe_lst pa_nil))
      (pss_cons (ps_for PassesOwn.never rfl (pi_list (pv 2)) (pg_name (i := 5) nd rfl (Or.inl rfl))
      (Evl.pss_cut (ps_set (i := 6) nd rfl (Or.inl rfl) (pe_ifExp (pt_cmpR (op_neD hr.units) (pv 5) (pe_lst pa_nil) (nomark _)) (pe_op op_add (pe_ix ix_list (pv 5) (pe_un un_neg pe_int) (fun _ _ => rfl)) pe_int) pe_int))
        (pss_one (ps_for PassesOwn.never rfl (pi_range2 rfl T.range (pa_cons (pv 6) (pa_cons (pv 0) pa_nil))) (pg_name (i := 7) nd rfl (Or.inl rfl))
        (pss_one (ps_expr (pe_bm PySem.F.plainAttrs_list PySem.F.slot_list_append PySem.F.type_list_append mt_append (pv 4) (pa_cons (pe_op op_cat (pv 5) (pe_lst (pa_cons (pv 7) pa_nil))) pa_nil))))))))
      (pss_one (ps_set (i := 2) nd rfl (Or.inl rfl) (pe_callTy call_list_of (by rfl) T.list (by decide +kernel) (pa_cons (pv 4) pa_nil))))))))
    (pss_one (ps_ret (pv 1))))), ?_⟩
  refine ⟨Nat.zero_le _, fun lf nf => ⟨Nat.zero_le _, fun e0 ne0 => ⟨by show 1 ≤ sizeLine; decide, fun ll nll => ⟨_, _, rfl, ?_⟩⟩⟩⟩
  have s3 := (same_new (o := .lst []) nf).trans ((same_new (o := .lst []) ne0).trans (same_new (o := .lst [.ref e0]) nll))
  refine ⟨_, rfl, _, _, rfl, rfl, (n : Int) + 1, rfl, by omega, by omega, for_range (lo := 0) (n := ((n : Int) + 1).toNat)
    (fun s σ H' => ∃ (z3 z4 z5 z6 z7 : Option V) (lf ll : Addr) (ps qs : List Addr), σ = [some (.int (n : Int)), some (.ref lf), some (.ref ll), z3, z4, z5, z6, z7] ∧ Same H H' ∧ H' lf = some (.lst (refs ps)) ∧ ListsAt H' ps (upTo n s) ∧
      H' ll = some (.lst (refs qs)) ∧ ListsAt H' qs (choices n s) ∧ H lf = none ∧ (∀ p ∈ ps, H p = none) ∧ ∀ q ∈ qs, H q = none)
    ⟨none, none, none, none, none, lf, ll, [], [e0], rfl, s3, nx nll (nx ne0 upd_same), .nil, upd_same, .cons (nx nll upd_same) .nil, nf, fun _ z => (nomatch z), fun q hq => ?_⟩ ?_ ?_⟩
  · have e : q = e0 := by simpa using hq
    rw [e]
    exact (nxn ne0).1
  · rintro s σ H1 hs ⟨z3, z4, z5, z6, z7, lf, ll, ps, qs, rfl, s1, hlf, hP, hll, hQ, flf, fP, fQ⟩
    have hs6 : s ≤ n := by omega
    have lp := hP.length
    have lq := hQ.length
    have b1 := upTo_small hn (show s ≤ 6 by omega)
    have b2 := Nat.le_trans (choices_len n s) (pow_small hn (show s ≤ 6 by omega))
    -- found = found + level
    refine ⟨_, rfl, _, rfl, lf, ll, _, _, rfl, rfl, hlf, hll, by rw [List.length_map, List.length_map]; omega, fun lf2 nlf2 => ?_⟩
    -- longer = []
    refine ⟨Nat.zero_le _, fun Fl nF => ?_⟩
    have s12 := (same_new (o := .lst (refs ps ++ refs qs)) nlf2).trans (same_new (o := .lst []) nF)
    have at_lf2 : upd (upd H1 lf2 (.lst (refs ps ++ refs qs))) Fl (.lst []) lf2 = some (.lst (refs ps ++ refs qs)) := nx nF upd_same
    generalize hH2 : upd (upd H1 lf2 (.lst (refs ps ++ refs qs))) Fl (.lst []) = H2 at s12 at_lf2 ⊢
    have atF : H2 Fl = some (.lst []) := by rw [← hH2, upd_same]
    have nF1 : H1 Fl = none := (nxn nF).1
    have lf2F : lf2 ≠ Fl := (nxn nF).2.symm
    refine ⟨_, rfl, ll, rfl, ⟨_, SqL.of (s12 _ _ hll)⟩, for_list (K := K) (a := ll) (xs := refs qs)
      (fun i σ H' => ∃ (z5 z6 z7 : Option V) (os : List Addr), σ = [some (.int (n : Int)), some (.ref lf2), some (.ref ll), some (.int (0 + (s : Int))), some (.ref Fl), z5, z6, z7] ∧ (∀ b u, H2 b = some u → b ≠ Fl → H' b = some u) ∧ H' Fl = some (.lst (refs os)) ∧
        ListsAt H' os (((choices n s).take i).flatMap (longer n)) ∧ ∀ o ∈ os, H2 o = none)
      ⟨z5, z6, z7, [], rfl, fun b u h _ => h, atF, .nil, fun _ z => (nomatch z)⟩ (fun i σ H' _ ⟨_, _, _, _, _, kp, _⟩ => SqL.of (kp _ _ (s12 _ _ hll) (ne_of_none hll nF1))) ?_ ?_⟩
    · rintro i y σ H3 hy ⟨z5, z6, z7, os, rfl, kp, hF, hO, fO⟩
      obtain ⟨q, hq, rfl⟩ : ∃ q, qs[i]? = some q ∧ V.ref q = y := by
        rw [List.getElem?_map] at hy
        exact Option.map_eq_some_iff.mp hy
      obtain ⟨js, hjs, hqj⟩ := paired_get hQ hq
      have qF : q ≠ Fl := ne_of_none hqj nF1
      have hq3 : H3 q = some (.lst (natV js)) := kp _ _ (s12 _ _ hqj) qF
      obtain ⟨⟨jasc, jlt⟩, jlen⟩ := choices_asc n s js (List.mem_of_getElem? hjs)
      have lle : leastOf js ≤ n := by
        unfold leastOf
        cases hlast : js.getLast? with
        | none => exact Nat.zero_le _
        | some k => exact jlt k (List.mem_of_getLast? hlast)
      -- least
      refine ⟨fun σ2 H4 => σ2 = [some (.int (n : Int)), some (.ref lf2), some (.ref ll), some (.int (0 + (s : Int))), some (.ref Fl), some (.ref q), some (.int (leastOf js : Int)), z7] ∧ Same H3 H4, ?_, ?_⟩
      · refine ⟨_, rfl, Nat.zero_le _, fun e ne => ?_⟩
        have hq4 := nx (o := .lst []) ne hq3
        refine ⟨_, _, natD_at (SqL.of hq4), natD_at (js := []) (SqL.of upd_same), natD_shaped _, natD_shaped _, _, rfl, ?_⟩
        rw [natD_eqv]
        rcases List.eq_nil_or_concat js with e0 | ⟨ys, j, e0⟩
        · subst e0
          exact iteF ⟨rfl, same_new ne⟩
        · rw [List.concat_eq_append] at e0
          subst e0
          have hne : (!decide (ys ++ [j] = [])) = true := by simp
          rw [natV_app] at hq4
          refine iteY hne ?_
          refine ⟨_, rfl, _, rfl, _, _, _, _, rfl, rfl, SqL.of hq4, atI_last _ _, _, _, rfl, rfl, ?_, same_new ne⟩
          rw [least_app]
          rfl
      rintro σ2 H4 ⟨rfl, s34⟩
      have hF4 := s34 _ _ hF
      have hq4 := s34 _ _ hq3
      -- the inner loop
      refine ⟨_, rfl, _, rfl, (leastOf js : Int), (n : Int), rfl, ⟨by omega, by omega, by omega, by omega⟩, for_range (lo := (leastOf js : Int)) (n := ((n : Int) - (leastOf js : Int)).toNat)
        (fun j σ H' => ∃ (z7 : Option V) (ts : List Addr), σ = [some (.int (n : Int)), some (.ref lf2), some (.ref ll), some (.int (0 + (s : Int))), some (.ref Fl), some (.ref q), some (.int (leastOf js : Int)), z7] ∧ (∀ b u, H4 b = some u → b ≠ Fl → H' b = some u) ∧
          H' Fl = some (.lst (refs os ++ refs ts)) ∧ ListsAt H' ts (((List.range' (leastOf js) (n - leastOf js)).take j).map fun k => js ++ [k]) ∧ ∀ t ∈ ts, H4 t = none)
        ⟨z7, [], rfl, fun b u h _ => h, by rw [hF4]; show _ = some (HO.lst (refs os ++ [])); rw [List.append_nil], .nil, fun _ z => (nomatch z)⟩ ?_ ?_⟩
      · rintro j σ H5 hj ⟨z7, ts, rfl, kp5, hF5, hT, fT⟩
        have hjn : j < n - leastOf js := by omega
        have hq5 : H5 q = some (.lst (natV js)) := kp5 _ _ hq4 qF
        have l1 := flat_take_len n s i hn
        refine ⟨_, rfl, .inl ⟨rfl, _, SqL.of hF5⟩, _, rfl, _, rfl, by show 1 ≤ sizeLine; decide, fun b nb => ?_⟩
        refine ⟨q, b, natV js, [.int ((leastOf js : Int) + (j : Int))], rfl, rfl, nx nb hq5, upd_same, ?_, fun t nt => ?_⟩
        · rw [natV_len, List.length_singleton, jlen]
          omega
        have s56 : Same H5 (upd (upd H5 b (.lst [.int ((leastOf js : Int) + (j : Int))])) t (.lst (natV js ++ [.int ((leastOf js : Int) + (j : Int))]))) := (same_new nb).trans (same_new nt)
        have nt5 : H5 t = none := (nxn nt).1
        have tF : t ≠ Fl := (ne_of_none hF5 nt5).symm
        have f4 : ∀ o : Addr, H5 o = none → H4 o = none := fun o h5 => by
          cases h4 : H4 o with
          | none => rfl
          | some u =>
            by_cases hb : o = Fl
            · rw [hb, hF5] at h5
              cases h5
            · rw [kp5 _ _ h4 hb] at h5
              cases h5
        have tsF : ∀ o ∈ ts, o ≠ Fl := fun o ho z => by
          have := fT o ho
          rw [z, hF4] at this
          cases this
        have hTl := hT.length
        have hOl := hO.length
        rw [List.length_map, List.length_take, List.length_range'] at hTl
        have l1 : (((choices n s).take i).flatMap (longer n)).length ≤ 46656 * 6 := by
          have h1 := flat_len n ((choices n s).take i)
          have h2 : ((choices n s).take i).length ≤ (choices n s).length := by
            rw [List.length_take]
            exact Nat.min_le_right _ _
          have h3 := Nat.mul_le_mul (Nat.le_trans h2 b2) hn
          omega
        refine ⟨Fl, _, _, rfl, rfl, s56 _ _ hF5, ?_, ?_⟩
        · rw [List.length_append, List.length_map, List.length_map]
          omega
        refine ⟨_, ts ++ [t], rfl, fun b u h hb => ?_, ?_, ?_, fun o ho => ?_⟩
        · rw [upd_ne hb]
          exact s56 _ _ (kp5 _ _ h hb)
        · rw [upd_same, show refs (ts ++ [t]) = refs ts ++ [V.ref t] from List.map_append, List.append_assoc]
        · rw [take_map_succ (range'_get hjn)]
          refine paired_app (ListsAt.upd (hT.mono s56) tsF) (.cons ?_ .nil)
          rw [upd_ne tF, upd_same, natV_app]
          rfl
        · rcases List.mem_append.mp ho with ho | ho
          · exact fT o ho
          · have e : o = t := by simpa using ho
            rw [e]
            exact f4 t nt5
      · rintro σ H5 ⟨z7, ts, rfl, kp5, hF5, hT, fT⟩
        have etake : (List.range' (leastOf js) (n - leastOf js)).take (((n : Int) - (leastOf js : Int)).toNat) = List.range' (leastOf js) (n - leastOf js) := by
          rw [List.take_of_length_le]
          rw [List.length_range']
          omega
        rw [etake] at hT
        have oF : ∀ o ∈ os, o ≠ Fl := fun o ho z => by
          have := fO o ho
          rw [z, atF] at this
          cases this
        refine ⟨_, _, _, os ++ ts, rfl, fun b u h hb => kp5 _ _ (s34 _ _ (kp _ _ h hb)) hb, ?_, ?_, fun o ho => ?_⟩
        · rw [hF5, show refs (os ++ ts) = refs os ++ refs ts from List.map_append]
        · rw [List.take_add_one, hjs, List.flatMap_append]
          refine paired_app (paired_memL (hO.mono s34) fun a b m e => kp5 _ _ e (oF a m)) ?_
          show ListsAt _ ts ([js].flatMap (longer n))
          rw [List.flatMap_singleton]
          exact hT
        · rcases List.mem_append.mp ho with ho | ho
          · exact fO o ho
          · have h4 := fT o ho
            have h3 := s34.free h4
            cases hh : H2 o with
            | none => rfl
            | some u =>
              by_cases hb : o = Fl
              · rw [hb, hF] at h3
                cases h3
              · rw [kp _ _ hh hb] at h3
                cases h3
    · rintro σ H3 ⟨z5, z6, z7, os, rfl, kp, hF, hO, fO⟩
      rw [List.length_map, hQ.length, List.take_length] at hO
      refine ⟨_, rfl, Fl, _, rfl, .inl (SqL.of hF), fun ll2 nll2 => ?_⟩
      have nF0 : H Fl = none := s1.free nF1
      have sH3 : Same H H3 := fun b u h => kp _ _ (s12 _ _ (s1 _ _ h)) (ne_of_none h nF0)
      have psF : ∀ p ∈ ps, p ≠ Fl := fun p hp => by
        obtain ⟨i, hi, e⟩ := List.mem_iff_getElem.mp hp
        obtain ⟨js, _, h⟩ := paired_get hP (List.getElem?_eq_getElem hi)
        rw [← e]
        exact ne_of_none h nF1
      have qsF : ∀ p ∈ qs, p ≠ Fl := fun p hp => by
        obtain ⟨i, hi, e⟩ := List.mem_iff_getElem.mp hp
        obtain ⟨js, _, h⟩ := paired_get hQ (List.getElem?_eq_getElem hi)
        rw [← e]
        exact ne_of_none h nF1
      refine ⟨_, _, _, _, _, lf2, ll2, ps ++ qs, os, rfl, sH3.trans (same_new nll2), nx nll2 ?_, ?_, upd_same, hO.mono (same_new nll2), s1.free nlf2, fun p hp => ?_, fun q hq => s1.free ?_⟩
      · rw [kp _ _ at_lf2 lf2F, show refs (ps ++ qs) = refs ps ++ refs qs from List.map_append]
      · show ListsAt _ (ps ++ qs) (upTo n s ++ choices n s)
        exact paired_app (ListsAt.mono (same_new nll2) (paired_memL (hP.mono s12) fun a b m e => kp _ _ e (psF a m))) (ListsAt.mono (same_new nll2) (paired_memL (hQ.mono s12) fun a b m e => kp _ _ e (qsF a m)))
      · rcases List.mem_append.mp hp with hp | hp
        · exact fP p hp
        · exact fQ p hp
      · exact s12.free (fO q hq)
  · rintro σ H1 ⟨z3, z4, z5, z6, z7, lf, ll, ps, qs, rfl, s1, hlf, hP, hll, hQ, flf, fP, fQ⟩
    rw [show ((n : Int) + 1).toNat = n + 1 by omega] at hP
    exact ⟨_, rfl, go lf ps H1 s1 flf hlf hP fP⟩
end
end K47

/-! K47L7: the law. -/
namespace K47
open PySem PySem.Spec PyProof.Rows L2
theorem cut_none {xs : List V} {m : Nat} : cutV xs none (some (m : Int)) = xs.take m := by
  unfold cutV
  rw [HT.sIx_none, HT.sIx_nat, List.drop_zero, Nat.sub_zero]
  by_cases h : m ≤ xs.length
  · rw [Nat.min_eq_left h]
  · rw [Nat.min_eq_right (by omega), List.take_length, List.take_of_length_le (by omega)]
theorem cut_some {xs : List V} {m : Nat} (h : m ≤ xs.length) : cutV xs (some (m : Int)) none = xs.drop m := by
  unfold cutV
  rw [HT.sIx_none, HT.sIx_nat, Nat.min_eq_left h, List.take_of_length_le (by rw [List.length_drop]; omega)]
theorem alike_iff {n : Int} {cs ds : List Cl} : SameTo n cs ds (4 * max (sizeOf cs) (sizeOf ds) + 3) ↔ alikeB n cs ds = true := by
  unfold alikeB
  exact (@decide_eq_true_iff _ (Classical.propDecidable _)).symm
theorem bound_ok {n : Int} {cs ds : List Cl} (h1 : AllOk n cs) (h2 : AllOk n ds) : 0 ≤ 4 * max (sizeOf cs) (sizeOf ds) + 3 ∧ 4 * max (sizeOf cs) (sizeOf ds) + 3 ≤ 1000 := by
  have l1 := sizeOf_le h1.2
  have l2 := sizeOf_le h2.2
  have k1 := h1.1
  have k2 := h2.1
  rw [Int.max_def]
  split <;> omega
/-- what is due so far -/
def DueIs (n : Int) (cs : List Cl) (jss : List (List Nat)) (H : Hp) (due : V) : Prop :=
  (jss.find? (fun js => alikeB n cs (pick cs js)) = none ∧ due = .non) ∨ ∃ (js : List Nat) (q : Addr), jss.find? (fun js => alikeB n cs (pick cs js)) = some js ∧ due = .ref q ∧ H q = some (.lst (natV js))
theorem DueIs.mono {n : Int} {cs : List Cl} {jss : List (List Nat)} {H H' : Hp} {due : V} (e : Same H H') : DueIs n cs jss H due → DueIs n cs jss H' due
  | .inl h => .inl h
  | .inr ⟨js, q, h1, h2, h3⟩ => .inr ⟨js, q, h1, h2, e _ _ h3⟩
theorem find_snoc {α : Type} (p : α → Bool) (l : List α) (a : α) : (l ++ [a]).find? p = (l.find? p).or (if p a then some a else none) := by
  rw [List.find?_append]
  congr 1
  rw [List.find?_cons]
  cases p a <;> rfl
section
variable {P : Program} {w : World} {K : PySem.W.Frag} {mg : Str → Option Value} {base : Heap} {C aN aF aO : Addr} {eF eO : Array DictEntry} {nF nO : Nat}
def spLaw (K : PySem.W.Frag) : Sp := fun vs H Q _ => ∃ (a : Addr) (ns : List Int), vs = [.ref a] ∧ SqL K H a (intV ns) ∧ ns.length ≤ 63 ∧ ∀ H', Q (.bl true) H'
abbrev st_law : Stmt := top 62
abbrev ps_law : List Str := ["_law_script"]
abbrev N_law : List Str := ["_law_script", "_law_bag_here", "_law_go", "_law_files", "_law_calls_here", "_law_call_here", "_law_at", "_law_both", "_law_due", "_law_some", "_law_others", "_law_most", "_law_found", "_law_again", "_law_turn"]
theorem sc_law : FnScope N_law ps_law (defScope st_law) := ⟨rfl, rfl, rfl, by decide +kernel, rfl, by decide +kernel, by decide +kernel⟩
/-- Script(files, calls), then kept of it -/
theorem made_kept {H : Hp} {y dy l : Addr} {n : Int} {as : List Addr} {cs : List Cl} (ny : H y = none) (ndy : H dy = none) (hne : dy ≠ y) (hn : FilesOk n) (hL : ListAt H l as cs) (ok : AllOk n cs) {R : VK} {E : XK}
    (k : ∀ H', ScriptAt C H' y n as cs → Same H H' → R .non H') : spInit C [.ref y, .int n, .ref l] (upd (upd H dy (.own y)) y (.ins C dy [])) R E :=
  have sm := made_same (C := C) ny ndy hne
  ⟨y, dy, l, n, as, cs, rfl, hn, upd_same, sm _ _ hL.1, hL.2.mono sm, ok, fun H7 S7 keep => k H7 S7 (Same.made ny ndy keep)⟩
theorem fn_law {f : Addr} {fd : FuncData} (F : Fun K "law" "law" st_law f fd) (T : Txt K mg w C aN aF aO eF eO nF nO) (D__law_bag : Def P w K mg base "_law_bag" 1 (spBag K)) (D__law_take : Def P w K mg base "_law_take" 1 spTake) (D__law_one : Def P w K mg base "_law_one" 2 spOne)
    (D__law_small : Def P w K mg base "_law_small" 5 spCallL) (D__law_calls : Def P w K mg base "_law_calls" 5 spCalls) (D__law_back : Def P w K mg base "_law_back" 1 spBack) (D__law_parted : Def P w K mg base "_law_parted" 4 spPartedL)
    (D__law_bound : Def P w K mg base "_law_bound" 2 spBound) (D__law_choices : Def P w K mg base "_law_choices" 1 spLChoices) (D_Script : DefC P w K mg base C "Script" 4 (spInit C)) (D_kept : Def P w K mg base "kept" 10 (spKept C)) :
    FnOk P w K mg base CX0 11 f fd ps_law (spLaw K) := by
  refine F.ok sc_law (fun vs H Q E h => ?_) (fun cdv A outer s0 H vs Q E hr h => ?_)
  · obtain ⟨_, _, rfl, _⟩ := h
    rfl
  obtain ⟨a, ns, rfl, ha, hl63, k⟩ := h
  have nd := sc_law.nd
  have line : sizeLine = 16777216 := sizeLine_eq
  refine ⟨_, (pss_cons (ps_set (i := 1) nd rfl (Or.inl rfl) (pe_callD D__law_bag (hr.mono (by decide)) (by rfl) (pa_cons (pv 0) pa_nil)))
    (pss_cons (ps_for PassesOwn.never rfl (pi_range1 rfl T.range (pa_cons pe_int pa_nil)) (pg_name (i := 2) nd rfl (Or.inl rfl))
    (Evl.pss_cut (ps_set (i := 3) nd rfl (Or.inl rfl) (pe_op op_add pe_int (pe_callD D__law_take (hr.mono (by decide)) (by rfl) (pa_cons (pv 1) (pa_cons pe_int pa_nil)))))
      (pss_cons (ps_set (i := 4) nd rfl (Or.inr rfl) (pe_callD D__law_calls (hr.mono (by decide)) (by rfl) (pa_cons (pv 1) (pa_cons (pv 3) (pa_cons pe_int (pa_cons pe_int pa_nil))))))
      (Evl.pss_cut (ps_if (pt_cmpR op_eq (pv 2) pe_int (nomark _))
      (pss_one (ps_set (i := 4) nd rfl (Or.inr rfl) (pe_callD D__law_calls (hr.mono (by decide)) (by rfl) (pa_cons (pv 1) (pa_cons (pv 3) (pa_cons pe_int (pa_cons pe_int pa_nil)))))))
      (pss_one (ps_if (pt_cmpR op_eq (pe_callD D__law_take (hr.mono (by decide)) (by rfl) (pa_cons (pv 1) (pa_cons pe_int pa_nil))) pe_int (nomark _))
        (pss_one (ps_set (i := 4) nd rfl (Or.inr rfl) (pe_lst (pa_cons (pe_callD D__law_one (hr.mono (by decide)) (by rfl) (pa_cons (pv 1) (pa_cons (pe_lst (pa_cons (pe_tup (pa_cons pe_str (pa_cons pe_int pa_nil))) (pa_cons (pe_tup (pa_cons pe_str (pa_cons pe_int (pa_cons (pe_un un_neg pe_int) pa_nil)))) (pa_cons (pe_tup (pa_cons pe_str (pa_cons pe_int (pa_cons pe_int (pa_cons pe_int pa_nil))))) pa_nil)))) pa_nil))) pa_nil))))
        (pss_one (ps_if (pt_cmpR op_eq (pe_callD D__law_take (hr.mono (by decide)) (by rfl) (pa_cons (pv 1) (pa_cons pe_int pa_nil))) pe_int (nomark _))
          (pss_cons (ps_par (i := 5) (j := 6) (by rfl) nd rfl rfl (by decide) rfl rfl (pa_cons (pe_callD D__law_small (hr.mono (by decide)) (by rfl) (pa_cons (pv 1) (pa_cons (pv 3) pa_nil))) (pa_cons (pe_callD D__law_take (hr.mono (by decide)) (by rfl) (pa_cons (pv 1) (pa_cons (pe_op op_add (pe_callB call_len_seq (by rfl) T.len PySem.boot_len (pa_cons (pv 4) pa_nil)) pe_int) pa_nil))) pa_nil)) (by rfl))
            (pss_cons (ps_set (i := 7) nd rfl (Or.inl rfl) (pe_op op_cat (pe_lst (pa_cons (pv 5) pa_nil)) (pe_callD D__law_back (hr.mono (by decide)) (by rfl) (pa_cons (pe_lst (pa_cons (pv 5) pa_nil)) pa_nil))))
            (pss_one (ps_set (i := 4) nd rfl (Or.inr rfl) (pe_op op_cat (pe_op op_cat (pe_slice sl_list (pv 4) po_none (po_some (pv 6))) (pv 7)) (pe_slice sl_list (pv 4) (po_some (pv 6)) po_none))))))
          pss_nil)))))
      (pss_cons (ps_set (i := 8) nd rfl (Or.inl rfl) pe_non)
      (pss_cons (ps_for PassesOwn.never rfl (pi_list (pe_callD D__law_choices (hr.mono (by decide)) (by rfl) (pa_cons (pe_callB call_len_seq (by rfl) T.len PySem.boot_len (pa_cons (pv 4) pa_nil)) pa_nil))) (pg_name (i := 9) nd rfl (Or.inl rfl))
      (pss_cons (ps_setLc (i := 10) (own := [("_law_at", 6)]) (g := gName 6) (tt := tYes) rfl nd rfl rfl (sw_true rfl rfl rfl (by decide +kernel)) (pi_list (pv 9)) (blkOk_by (N := N_law) (sc := defScope st_law) (by decide +kernel)) (fun _ _ _ _ _ => pg_name (i := 6) nd rfl (Or.inl rfl)) (fun _ _ _ _ _ => pts_nil) (fun _ _ _ _ _ => (pe_ix (r := rIxL K) ix_list (pv 4) (pv 6) (fun _ _ => rfl))))
        (pss_cons (ps_set (i := 11) nd rfl (Or.inl rfl) (pe_callD D__law_bound (hr.mono (by decide)) (by rfl) (pa_cons (pv 4) (pa_cons (pv 10) pa_nil))))
        (pss_one (ps_if (pt_cmpR op_isN (pv 8) pe_non (nomark _))
        (pss_one (ps_if (pt_cmpR op_isN (pe_callD D__law_parted (hr.mono (by decide)) (by rfl) (pa_cons (pv 3) (pa_cons (pv 4) (pa_cons (pv 10) (pa_cons (pv 11) pa_nil))))) pe_non (nomark _))
          (pss_one (ps_set (i := 8) nd rfl (Or.inl rfl) (pv 9)))
          pss_nil))
        pss_nil)))))
      (pss_cons (ps_set (i := 12) nd rfl (Or.inl rfl) (pe_callD D_kept (hr.mono (by decide)) (by rfl) (pa_cons (pe_makeD D_Script (hr.mono (by decide)) (by rfl) (pa_cons (pv 3) (pa_cons (pv 4) pa_nil))) pa_nil)))
      (pss_cons (ps_if (pt_cmpR (op_neD hr.units) (pv 12) (pv 8) (nomark _))
      (pss_one (ps_ret pe_bl))
      pss_nil)
      (pss_cons (ps_expr (pe_bm PySem.F.plainAttrs_list PySem.F.slot_list_append PySem.F.type_list_append mt_append (pv 12) (pa_cons pe_int pa_nil)))
      (pss_cons (ps_set (i := 13) nd rfl (Or.inl rfl) (pe_makeD D_Script (hr.mono (by decide)) (by rfl) (pa_cons (pv 3) (pa_cons (pv 4) pa_nil))))
      (pss_one (ps_for PassesOwn.never rfl (pi_range1 rfl T.range (pa_cons pe_int pa_nil)) (pg_name (i := 14) nd rfl (Or.inl rfl))
      (pss_cons (ps_set (i := 12) nd rfl (Or.inl rfl) (pe_callD D_kept (hr.mono (by decide)) (by rfl) (pa_cons (pv 13) pa_nil)))
        (pss_cons (ps_if (pt_cmpR (op_neD hr.units) (pv 12) (pv 8) (nomark _))
        (pss_one (ps_ret pe_bl))
        pss_nil)
        (pss_one (ps_expr (pe_bm PySem.F.plainAttrs_list PySem.F.slot_list_append PySem.F.type_list_append mt_append (pv 12) (pa_cons pe_int pa_nil))))))))))))))))))
    (pss_one (ps_ret pe_bl)))), ?_⟩
  refine ⟨_, rfl, a, ns, rfl, ha, hl63, fun b c H0 _ _ B0 => ?_⟩
  refine ⟨2, rfl, by decide, by decide, for_range (lo := 0) (n := 2) (fun i σ H' => ∃ z2 z3 z4 z5 z6 z7 z8 z9 z10 z11 z12 z13 z14 : Option V, σ = [some (.ref a), some (.ref b), z2, z3, z4, z5, z6, z7, z8, z9, z10, z11, z12, z13, z14] ∧ BagAt H' b c)
    ⟨none, none, none, none, none, none, none, none, none, none, none, none, none, rfl, B0⟩ ?_ ?_⟩
  · rintro go σ Ha hgo ⟨z2, z3, z4, z5, z6, z7, z8, z9, z10, z11, z12, z13, z14, rfl, Ba⟩
    -- files
    refine ⟨fun σ' H' => ∃ n : Int, FilesOk n ∧ σ' = [some (.ref a), some (.ref b), some (.int (0 + (go : Int))), some (.int n), z4, z5, z6, z7, z8, z9, z10, z11, z12, z13, z14] ∧ BagAt H' b c, ?_, ?_⟩
    · refine ⟨_, rfl, b, c, 2, rfl, Ba, by decide, by decide, fun r H1 r0 r1 s1 B1 => ⟨_, _, rfl, rfl, 2 + r, ?_, rfl, B1⟩⟩
      unfold FilesOk
      omega
    rintro σ' H1 ⟨n, hn, rfl, B1⟩
    have hn23 : 2 ≤ n ∧ n ≤ 3 := by
      rcases hn with rfl | rfl <;> decide
    -- calls
    refine ⟨_, rfl, _, rfl, b, c, n, 3, 4, rfl, B1, hn, by decide, by decide, fun l0 as0 cs0 H2 s2 B2 nl0 hl0 hcs0 hok0 hlen0 => ?_⟩
    refine ⟨fun σ' H' => ∃ (z5 z6 z7 : Option V) (l : Addr) (as : List Addr) (cs : List Cl), σ' = [some (.ref a), some (.ref b), some (.int (0 + (go : Int))), some (.int n), some (.ref l), z5, z6, z7, z8, z9, z10, z11, z12, z13, z14] ∧ BagAt H' b c ∧ ListAt H' l as cs ∧ AllOk n cs, ?_, ?_⟩
    · refine ⟨_, rfl, rfl, _, rfl, ite2 (fun _ => ?_) (fun _ => ?_)⟩
      · exact ⟨_, rfl, _, rfl, b, c, n, 6, 6, rfl, B2, hn, by decide, by decide, fun l as cs H3 s3 B3 nl hl hcs hok hlen => ⟨_, _, _, l, as, cs, rfl, B3, ⟨hl, hcs⟩, ⟨by omega, hok⟩⟩⟩
      refine ⟨_, rfl, b, c, 4, rfl, B2, by decide, by decide, fun r2 H3 _ _ s3 B3 => ⟨rfl, _, rfl, ite2 (fun _ => ?_) (fun _ => ?_)⟩⟩
      · refine ⟨_, rfl, by show 2 ≤ sizeLine; decide, fun t1 n1 => ⟨_, rfl, by show 3 ≤ sizeLine; decide, fun t2 n2 => ⟨by show 4 ≤ sizeLine; decide, fun t3 n3 => ⟨by show 3 ≤ sizeLine; decide, fun ll nll => ?_⟩⟩⟩⟩
        have sm := (same_new (o := .tup (cv (.all 6))) n1).trans ((same_new (o := .tup (cv (.up 0 (-12)))) n2).trans ((same_new (o := .tup (cv (.wheel 0 1 12))) n3).trans (same_new (o := .lst [.ref t1, .ref t2, .ref t3]) nll)))
        have B4 := B3.mono sm
        have h1 := nx (o := .lst [.ref t1, .ref t2, .ref t3]) nll (nx (o := .tup (cv (.wheel 0 1 12))) n3 (nx (o := .tup (cv (.up 0 (-12)))) n2 (upd_same (H := H3) (a := t1) (o := .tup (cv (.all 6))))))
        have h2 := nx (o := .lst [.ref t1, .ref t2, .ref t3]) nll (nx (o := .tup (cv (.wheel 0 1 12))) n3 (upd_same (H := upd H3 t1 (.tup (cv (.all 6)))) (a := t2) (o := .tup (cv (.up 0 (-12))))))
        have h3 := nx (o := .lst [.ref t1, .ref t2, .ref t3]) nll (upd_same (H := upd (upd H3 t1 (.tup (cv (.all 6)))) t2 (.tup (cv (.up 0 (-12))))) (a := t3) (o := .tup (cv (.wheel 0 1 12))))
        refine ⟨b, c, ll, [t1, t2, t3], rfl, B4, upd_same, by show 0 < 3; decide, by show 3 < 1000; decide, fun t H5 ht s5 B5 => ⟨by show 1 ≤ sizeLine; decide, fun l nl => ?_⟩⟩
        obtain ⟨cl, hcl, hok⟩ : ∃ cl, H5 t = some (.tup (cv cl)) ∧ OkC n cl := by
          have m : t = t1 ∨ t = t2 ∨ t = t3 := by simpa using ht
          rcases m with rfl | rfl | rfl
          · exact ⟨.all 6, s5 _ _ h1 (bag_tup B4 h1), by show NumOk 6; unfold NumOk; decide⟩
          · exact ⟨.up 0 (-12), s5 _ _ h2 (bag_tup B4 h2), by show FileOk n 0 ∧ NumOk (-12); unfold NumOk FileOk; omega⟩
          · exact ⟨.wheel 0 1 12, s5 _ _ h3 (bag_tup B4 h3), by show FileOk n 0 ∧ FileOk n 1 ∧ (0 : Int) ≠ 1 ∧ NumOk 12; unfold NumOk FileOk; omega⟩
        exact ⟨_, _, _, l, [t], [cl], rfl, B5.mono (same_new nl), ⟨upd_same, .cons (nx nl hcl) .nil⟩, ⟨by show 1 ≤ 6; decide, fun d hd => by
          have e : d = cl := by simpa using hd
          rw [e]
          exact hok⟩⟩
      refine ⟨_, rfl, b, c, 2, rfl, B3, by decide, by decide, fun r3 H4 _ _ s4 B4 => ⟨rfl, _, rfl, ite2 (fun _ => ?_) (fun _ => ?_)⟩⟩
      · have lb0 : l0 ≠ b := bag_refs B2 hl0
        have hl4 := s4 _ _ (s3 _ _ hl0 lb0) lb0
        have hcs4 := s4.calls B3 (s3.calls B2 hcs0)
        have elen := hcs0.length
        refine ⟨_, rfl, _, rfl, b, c, n, rfl, B4, hn, fun q cl H5 s5 B5 hq hcl => ?_⟩
        have hl5 := s5 _ _ hl4 lb0
        have hcs5 := s5.calls B4 hcs4
        refine ⟨_, rfl, _, rfl, l0, _, rfl, .inl (SqL.of hl5), _, _, rfl, rfl, b, c, _, rfl, B5, by rw [List.length_map]; omega, by rw [List.length_map]; omega, fun kk H6 k0 k1 s6 B6 => ⟨_, _, rfl, ?_⟩⟩
        rw [List.length_map] at k1
        have hl6 := s6 _ _ hl5 lb0
        have hcs6 := s6.calls B5 hcs5
        have hq6 := s6 _ _ hq (bag_tup B5 hq)
        obtain ⟨kn, rfl⟩ := Int.eq_ofNat_of_zero_le k0
        have kle : kn ≤ as0.length := by omega
        -- both
        refine ⟨_, rfl, by show 1 ≤ sizeLine; decide, fun o1 no1 => ?_⟩
        refine ⟨_, rfl, by show 1 ≤ sizeLine; decide, fun o2 no2 => ?_⟩
        have so := (same_new (o := .lst [.ref q]) no1).trans (same_new (o := .lst [.ref q]) no2)
        refine ⟨n, o2, [q], [cl], rfl, ⟨upd_same, .cons (so _ _ hq6) .nil⟩, fun d hd => ?_, by show 1 ≤ 6; decide, fun l' bs ds H7 s7 nl' L7 hds hdl => ?_⟩
        · have e : d = cl := by simpa using hd
          rw [e]
          exact hcl
        have h7 := so.trans s7
        have elen7 := L7.2.length
        have hdl : ds.length = 1 := hdl
        refine ⟨o1, l', _, _, rfl, rfl, s7 _ _ (nx no2 upd_same), L7.1, by rw [List.length_singleton, List.length_map]; omega, fun o3 no3 => ?_⟩
        -- calls
        have s73 := same_new (o := .lst ([.ref q] ++ refs bs)) no3
        have hl73 := s73 _ _ (h7 _ _ hl6)
        refine ⟨_, rfl, _, rfl, _, rfl, l0, _, rfl, SqL.of hl73, fun p1 np1 => ?_⟩
        rw [cut_none]
        refine ⟨_, rfl, p1, o3, _, _, rfl, rfl, upd_same, nx np1 upd_same, by rw [List.length_take, List.length_append, List.length_singleton, List.length_map, List.length_map]; omega, fun p2 np2 => ?_⟩
        have s75 := (same_new (o := .lst ((refs as0).take kn)) np1).trans (same_new (o := .lst ((refs as0).take kn ++ ([.ref q] ++ refs bs))) np2)
        refine ⟨_, rfl, _, rfl, _, rfl, l0, _, rfl, SqL.of (s75 _ _ hl73), fun p3 np3 => ?_⟩
        rw [cut_some (by rw [List.length_map]; exact kle)]
        refine ⟨p2, p3, _, _, rfl, rfl, nx np3 upd_same, upd_same, by rw [List.length_append, List.length_append, List.length_take, List.length_drop, List.length_singleton, List.length_map, List.length_map]; omega, fun p4 np4 => ?_⟩
        have s76 := s73.trans (s75.trans ((same_new (o := .lst ((refs as0).drop kn)) np3).trans (same_new (o := .lst ((refs as0).take kn ++ ([.ref q] ++ refs bs) ++ (refs as0).drop kn)) np4)))
        have s66 := h7.trans s76
        refine ⟨_, _, _, p4, as0.take kn ++ ([q] ++ bs) ++ as0.drop kn, cs0.take kn ++ ([cl] ++ ds) ++ cs0.drop kn, rfl, B6.mono s66, ⟨?_, ?_⟩, ?_, fun d hd => ?_⟩
        · rw [upd_same]
          simp [refs, List.map_take, List.map_drop]
        · exact paired_app (paired_app (paired_take kn (CallsAt.mono s66 hcs6)) (paired_app (Paired.cons (s66 _ _ hq6) .nil) (CallsAt.mono s76 L7.2))) (paired_drop kn (CallsAt.mono s66 hcs6))
        · rw [List.length_append, List.length_append, List.length_append, List.length_take, List.length_drop, List.length_singleton]
          omega
        · rcases List.mem_append.mp hd with hd | hd
          · rcases List.mem_append.mp hd with hd | hd
            · exact hok0 d (List.mem_of_mem_take hd)
            · rcases List.mem_append.mp hd with hd | hd
              · have e : d = cl := by simpa using hd
                rw [e]
                exact hcl
              · exact hds d hd
          · exact hok0 d (List.mem_of_mem_drop hd)
      · have lb0 : l0 ≠ b := bag_refs B2 hl0
        exact ⟨_, _, _, l0, as0, cs0, rfl, B4, ⟨s4 _ _ (s3 _ _ hl0 lb0) lb0, s4.calls B3 (s3.calls B2 hcs0)⟩, ⟨by omega, hok0⟩⟩
    rintro σ' Hc ⟨z5, z6, z7, l, as, cs, rfl, Bc, Lc, ok⟩
    clear hlen0 hok0 hcs0 hl0 nl0 B2 s2
    have elen : ((refs as).length : Int) = (cs.length : Int) := by rw [List.length_map, Lc.2.length]
    -- the choices
    refine ⟨_, rfl, l, _, rfl, .inl (SqL.of Lc.1), cs.length, congrArg (fun z => [V.int z]) elen, ok.1, fun lc ps H8 s8 nlc hlc hPs _ => ⟨lc, rfl, ⟨_, SqL.of hlc⟩, for_list (K := K) (a := lc) (xs := refs ps)
      (fun i σ H' => ∃ (due : V) (z9 z10 z11 : Option V), σ = [some (.ref a), some (.ref b), some (.int (0 + (go : Int))), some (.int n), some (.ref l), z5, z6, z7, some due, z9, z10, z11, z12, z13, z14] ∧ Same H8 H' ∧ DueIs n cs ((upTo cs.length (cs.length + 1)).take i) H' due)
      ⟨.non, z9, z10, z11, rfl, Same.refl _, .inl ⟨rfl, rfl⟩⟩ (fun i σ H' _ ⟨_, _, _, _, _, s9, _⟩ => SqL.of (s9 _ _ hlc)) ?_ ?_⟩⟩
    · rintro i y σ H9 hy ⟨due, z9, z10, z11, rfl, s9, hdue⟩
      obtain ⟨p, hp, rfl⟩ : ∃ p, ps[i]? = some p ∧ V.ref p = y := by
        rw [List.getElem?_map] at hy
        exact Option.map_eq_some_iff.mp hy
      obtain ⟨js, hjs, hpj⟩ := paired_get hPs hp
      have jasc := upTo_asc _ _ js (List.mem_of_getElem? hjs)
      have hp9 := s9 _ _ hpj
      have L9 := (Lc.mono s8).mono s9
      -- others
      refine ⟨_, rfl, p, rfl, ⟨_, SqL.of hp9⟩, fun D nD => lc_list (K := K) (a := p) (xs := natV js)
        (fun j H6 => Same H9 H6 ∧ H6 D = some (.lst (refs (pick as (js.take j))))) ⟨same_new nD, upd_same⟩ (fun j H6 _ g => SqL.of (g.1 _ _ hp9)) ?_ ?_⟩
      · rintro j y H6 hy ⟨s6, hD⟩
        obtain ⟨kk, hk, rfl⟩ : ∃ kk : Nat, js[j]? = some kk ∧ V.int (kk : Int) = y := by
          rw [List.getElem?_map] at hy
          exact Option.map_eq_some_iff.mp hy
        have hkl : kk < as.length := by
          rw [Lc.2.length]
          exact jasc.2 kk (List.mem_of_getElem? hk)
        have hak : as[kk]? = some as[kk] := List.getElem?_eq_getElem hkl
        have jl := asc_len jasc
        have c6 := ok.1
        refine ⟨rfl, _, rfl, _, rfl, l, _, _, _, rfl, rfl, SqL.of (s6 _ _ L9.1), atI_nat (j := kk) (by rw [List.getElem?_map, hak]; rfl), _, hD, ?_, Same.mut s6 nD, ?_⟩
        · have := pick_len as (js.take j)
          rw [List.length_take] at this
          rw [List.length_map]
          omega
        · rw [upd_same, pick_take hk hak, show refs (pick as (js.take j) ++ [as[kk]]) = refs (pick as (js.take j)) ++ [V.ref as[kk]] from List.map_append]
      rintro H6 ⟨s6, hD⟩
      rw [natV_len, List.take_length] at hD
      have L6 := L9.mono s6
      have okp := pick_ok ok jasc
      have LD : ListAt H6 D (pick as js) (pick cs js) := ⟨hD, paired_pick L6.2 js⟩
      -- most
      refine ⟨_, rfl, _, rfl, l, D, as, pick as js, cs, pick cs js, rfl, L6, LD, fun H10 s10 => ?_⟩
      have s910 : Same H9 H10 := s6.trans s10
      obtain ⟨m0, m1⟩ := bound_ok ok okp
      have tk : (upTo cs.length (cs.length + 1)).take (i + 1) = (upTo cs.length (cs.length + 1)).take i ++ [js] := by
        rw [List.take_add_one, hjs]
        rfl
      refine ⟨_, rfl, rfl, _, rfl, ite2 (fun e => ?_) (fun e => ?_)⟩
      · have e : due = V.non := of_decide_eq_true e
        have hnone : ((upTo cs.length (cs.length + 1)).take i).find? (fun js => alikeB n cs (pick cs js)) = none := by
          rcases hdue with ⟨h, _⟩ | ⟨_, _, _, h, _⟩
          · exact h
          · rw [e] at h
            cases h
        refine ⟨_, rfl, _, rfl, _, rfl, _, rfl, n, _, l, D, as, pick as js, cs, pick cs js, rfl, hn, L6.mono s10, LD.mono s10, ok.2, okp.2, m0, m1, fun v H11 s11 hv => ⟨rfl, _, rfl, ite2 (fun e2 => ?_) (fun e2 => ?_)⟩⟩
        · have e2 : alikeB n cs (pick cs js) = true := alike_iff.mp (hv.mp (of_decide_eq_true e2))
          refine ⟨_, rfl, _, _, _, _, rfl, s9.trans (s910.trans s11), .inr ⟨js, p, ?_, rfl, s11 _ _ (s910 _ _ hp9)⟩⟩
          rw [tk, find_snoc, hnone, e2]
          rfl
        · have e2 : alikeB n cs (pick cs js) = false := by
            refine Bool.eq_false_iff.mpr fun z => e2 (decide_eq_true (hv.mpr (alike_iff.mpr z)))
          refine ⟨_, _, _, _, rfl, s9.trans (s910.trans s11), .inl ⟨?_, e⟩⟩
          rw [tk, find_snoc, hnone, e2]
          rfl
      · have e : due ≠ V.non := fun z => e (decide_eq_true z)
        refine ⟨_, _, _, _, rfl, s9.trans s910, ?_⟩
        rcases hdue with ⟨_, h⟩ | ⟨js', q, h1, h2, h3⟩
        · exact absurd h e
        · refine .inr ⟨js', q, ?_, h2, s910 _ _ h3⟩
          rw [tk, find_snoc, h1]
          rfl
    rintro σ H9 ⟨due, z9, z10, z11, rfl, s9, hdue⟩
    rw [List.length_map, hPs.length, List.take_length] at hdue
    obtain ⟨q, rfl, hq⟩ : ∃ q, due = .ref q ∧ H9 q = some (.lst (natV (keptOf n cs))) := by
      rcases hdue with ⟨h, _⟩ | ⟨js, q, h1, h2, h3⟩
      · rw [kept_first] at h
        cases h
      · rw [kept_first] at h1
        cases h1
        exact ⟨q, h2, h3⟩
    have s89 := s8.trans s9
    have L9 := Lc.mono s89
    have B9 := Bc.mono s89
    have klen : (natV (keptOf n cs)).length < sizeLine := by
      have h1 : (keptOf n cs).length ≤ cs.length := by
        have h2 := List.find?_some (kept_first n cs)
        have h3 := List.mem_of_find?_eq_some (kept_first n cs)
        exact asc_len (upTo_asc _ _ _ h3)
      have := ok.1
      rw [natV_len]
      omega
    -- found = kept(Script(files, calls))
    refine ⟨_, rfl, _, rfl, fun y dy ny ndy hne => made_kept ny ndy hne hn L9 ok fun H12 S12 s12 => ⟨rfl, y, n, as, cs, rfl, S12, hn, ok, fun p1 H13 s13 np1 hp1 => ?_⟩⟩
    have sk := s12.trans s13
    refine ⟨_, rfl, _, rfl, _, _, natD_at (SqL.of hp1), natD_at (SqL.of (sk _ _ hq)), natD_shaped _, natD_shaped _, _, rfl, ?_⟩
    rw [natD_eqv, decide_eq_true rfl]
    refine iteF ?_
    refine ⟨_, rfl, .inl ⟨rfl, _, SqL.of hp1⟩, p1, _, _, rfl, rfl, hp1, klen, ?_⟩
    have np9 : H9 p1 = none := s12.free np1
    have s14 : Same H9 (upd H13 p1 (.lst (natV (keptOf n cs) ++ [.int 0]))) := Same.mut sk np9
    generalize upd H13 p1 (.lst (natV (keptOf n cs) ++ [.int 0])) = H14 at s14 ⊢
    -- again
    refine ⟨_, rfl, _, rfl, fun y2 dy2 ny2 ndy2 hne2 => made_kept ny2 ndy2 hne2 hn (L9.mono s14) ok fun H15 S15 s15 => ⟨rfl, ?_⟩⟩
    have s915 := s14.trans s15
    refine ⟨3, rfl, by decide, by decide, for_range (lo := 0) (n := 3) (fun i σ H' => ∃ z12 z14 : Option V, σ = [some (.ref a), some (.ref b), some (.int (0 + (go : Int))), some (.int n), some (.ref l), z5, z6, z7, some (.ref q), z9, z10, z11, z12, some (.ref y2), z14] ∧ Same H15 H') ⟨_, _, rfl, Same.refl _⟩ ?_ ?_⟩
    · rintro i σ H16 hi ⟨z12, z14, rfl, s16⟩
      have s916 := s915.trans s16
      refine ⟨_, rfl, y2, n, as, cs, rfl, S15.mono s16, hn, ok, fun p2 H17 s17 np2 hp2 => ?_⟩
      refine ⟨_, rfl, _, rfl, _, _, natD_at (SqL.of hp2), natD_at (SqL.of (s17 _ _ (s916 _ _ hq))), natD_shaped _, natD_shaped _, _, rfl, ?_⟩
      rw [natD_eqv, decide_eq_true rfl]
      refine iteF ?_
      refine ⟨_, rfl, .inl ⟨rfl, _, SqL.of hp2⟩, p2, _, _, rfl, rfl, hp2, klen, ?_⟩
      exact ⟨_, _, rfl, Same.mut (s16.trans s17) (s16.free np2)⟩
    · rintro σ H16 ⟨z12, z14, rfl, s16⟩
      exact ⟨_, _, _, _, _, _, _, _, _, _, _, _, _, rfl, B9.mono (s915.trans s16)⟩
  · rintro σ Ha ⟨z2, z3, z4, z5, z6, z7, z8, z9, z10, z11, z12, z13, z14, rfl, Ba⟩
    exact k _
end
end K47

/-! K47E: the defs' facts put together. -/
namespace K47
open PySem PySem.Spec PyProof.Rows L2
def BindOk (x q : Str) (st : Stmt) (ps : List Str) : Prop := ∀ (kV doc pm : Value) (an : Option Addr) (cdv ct : Value) (us : List Value), us.length = ps.length →
  bindArgs (PySem.W.fnOf x q (defArgs st) (defBody st) (defScope st) .none kV doc pm an cdv ct) ⟨us, []⟩ = pure (ps.zip us)
theorem b_is_integer : BindOk "is_integer" "is_integer" st_is_integer ps_is_integer := fun _ _ _ _ _ _ us hl => match us, hl with | [_], _ => rfl
theorem b_is_files : BindOk "is_files" "is_files" st_is_files ps_is_files := fun _ _ _ _ _ _ us hl => match us, hl with | [_], _ => rfl
theorem b_is_index : BindOk "is_index" "is_index" st_is_index ps_is_index := fun _ _ _ _ _ _ us hl => match us, hl with | [_, _], _ => rfl
theorem b_is_call : BindOk "is_call" "is_call" st_is_call ps_is_call := fun _ _ _ _ _ _ us hl => match us, hl with | [_, _], _ => rfl
theorem b_is_straight : BindOk "is_straight" "is_straight" st_is_straight ps_is_straight := fun _ _ _ _ _ _ us hl => match us, hl with | [_], _ => rfl
theorem b_size_of : BindOk "size_of" "size_of" st_size_of ps_size_of := fun _ _ _ _ _ _ us hl => match us, hl with | [_], _ => rfl
theorem b_on_wheel : BindOk "on_wheel" "on_wheel" st_on_wheel ps_on_wheel := fun _ _ _ _ _ _ us hl => match us, hl with | [_, _, _], _ => rfl
theorem b_moved_by : BindOk "moved_by" "moved_by" st_moved_by ps_moved_by := fun _ _ _ _ _ _ us hl => match us, hl with | [_, _, _, _], _ => rfl
theorem b_is_place : BindOk "is_place" "is_place" st_is_place ps_is_place := fun _ _ _ _ _ _ us hl => match us, hl with | [_, _, _], _ => rfl
theorem b_place_of : BindOk "place_of" "place_of" st_place_of ps_place_of := fun _ _ _ _ _ _ us hl => match us, hl with | [_, _], _ => rfl
theorem b_early : BindOk "early" "early" st_early ps_early := fun _ _ _ _ _ _ us hl => match us, hl with | [_], _ => rfl
theorem b_passed : BindOk "passed" "passed" st_passed ps_passed := fun _ _ _ _ _ _ us hl => match us, hl with | [_, _, _], _ => rfl
theorem b_moved : BindOk "moved" "moved" st_moved ps_moved := fun _ _ _ _ _ _ us hl => match us, hl with | [_, _, _], _ => rfl
theorem b_need_same_files : BindOk "need_same_files" "need_same_files" st_need_same_files ps_need_same_files := fun _ _ _ _ _ _ us hl => match us, hl with | [_, _], _ => rfl
theorem b_parted_in : BindOk "parted_in" "parted_in" st_parted_in ps_parted_in := fun _ _ _ _ _ _ us hl => match us, hl with | [_, _, _], _ => rfl
theorem b_parting_to : BindOk "parting_to" "parting_to" st_parting_to ps_parting_to := fun _ _ _ _ _ _ us hl => match us, hl with | [_, _, _], _ => rfl
theorem b_parting : BindOk "parting" "parting" st_parting ps_parting := fun _ _ _ _ _ _ us hl => match us, hl with | [_, _], _ => rfl
theorem b_alike : BindOk "alike" "alike" st_alike ps_alike := fun _ _ _ _ _ _ us hl => match us, hl with | [_, _], _ => rfl
theorem b_choices_of : BindOk "choices_of" "choices_of" st_choices_of ps_choices_of := fun _ _ _ _ _ _ us hl => match us, hl with | [_, _], _ => rfl
theorem b_kept : BindOk "kept" "kept" st_kept ps_kept := fun _ _ _ _ _ _ us hl => match us, hl with | [_], _ => rfl
theorem b__law_bag : BindOk "_law_bag" "_law_bag" st__law_bag ps__law_bag := fun _ _ _ _ _ _ us hl => match us, hl with | [_], _ => rfl
theorem b__law_take : BindOk "_law_take" "_law_take" st__law_take ps__law_take := fun _ _ _ _ _ _ us hl => match us, hl with | [_, _], _ => rfl
theorem b__law_one : BindOk "_law_one" "_law_one" st__law_one ps__law_one := fun _ _ _ _ _ _ us hl => match us, hl with | [_, _], _ => rfl
theorem b__law_mixed : BindOk "_law_mixed" "_law_mixed" st__law_mixed ps__law_mixed := fun _ _ _ _ _ _ us hl => match us, hl with | [_, _], _ => rfl
theorem b__law_pair : BindOk "_law_pair" "_law_pair" st__law_pair ps__law_pair := fun _ _ _ _ _ _ us hl => match us, hl with | [_, _], _ => rfl
theorem b__law_number : BindOk "_law_number" "_law_number" st__law_number ps__law_number := fun _ _ _ _ _ _ us hl => match us, hl with | [_], _ => rfl
theorem b__law_call : BindOk "_law_call" "_law_call" st__law_call ps__law_call := fun _ _ _ _ _ _ us hl => match us, hl with | [_, _], _ => rfl
theorem b__law_size : BindOk "_law_size" "_law_size" st__law_size ps__law_size := fun _ _ _ _ _ _ us hl => match us, hl with | [_], _ => rfl
theorem b__law_small : BindOk "_law_small" "_law_small" st__law_small ps__law_small := fun _ _ _ _ _ _ us hl => match us, hl with | [_, _], _ => rfl
theorem b__law_calls : BindOk "_law_calls" "_law_calls" st__law_calls ps__law_calls := fun _ _ _ _ _ _ us hl => match us, hl with | [_, _, _, _], _ => rfl
theorem b__law_ring : BindOk "_law_ring" "_law_ring" st__law_ring ps__law_ring := fun _ _ _ _ _ _ us hl => match us, hl with | [_, _, _, _, _], _ => rfl
theorem b__law_led : BindOk "_law_led" "_law_led" st__law_led ps__law_led := fun _ _ _ _ _ _ us hl => match us, hl with | [_, _, _, _], _ => rfl
theorem b__law_done : BindOk "_law_done" "_law_done" st__law_done ps__law_done := fun _ _ _ _ _ _ us hl => match us, hl with | [_, _, _, _], _ => rfl
theorem b__law_places : BindOk "_law_places" "_law_places" st__law_places ps__law_places := fun _ _ _ _ _ _ us hl => match us, hl with | [_, _], _ => rfl
theorem b__law_back : BindOk "_law_back" "_law_back" st__law_back ps__law_back := fun _ _ _ _ _ _ us hl => match us, hl with | [_], _ => rfl
theorem b__law_parted : BindOk "_law_parted" "_law_parted" st__law_parted ps__law_parted := fun _ _ _ _ _ _ us hl => match us, hl with | [_, _, _, _], _ => rfl
theorem b__law_bound : BindOk "_law_bound" "_law_bound" st__law_bound ps__law_bound := fun _ _ _ _ _ _ us hl => match us, hl with | [_, _], _ => rfl
theorem b__law_choices : BindOk "_law_choices" "_law_choices" st__law_choices ps__law_choices := fun _ _ _ _ _ _ us hl => match us, hl with | [_], _ => rfl
theorem b_law : BindOk "law" "law" st_law ps_law := fun _ _ _ _ _ _ us hl => match us, hl with | [_], _ => rfl
theorem bm___init__ : BindOk "__init__" "Script.__init__" st_Script___init__ ps_Script___init__ := fun _ _ _ _ _ _ us hl => match us, hl with | [_, _, _], _ => rfl
theorem bm___iter__ : BindOk "__iter__" "Script.__iter__" st_Script___iter__ ps_Script___iter__ := fun _ _ _ _ _ _ us hl => match us, hl with | [_], _ => rfl
theorem bm_calls : BindOk "calls" "Script.calls" st_Script_calls ps_Script_calls := fun _ _ _ _ _ _ us hl => match us, hl with | [_], _ => rfl
theorem bm_is_straight : BindOk "is_straight" "Script.is_straight" st_Script_is_straight ps_Script_is_straight := fun _ _ _ _ _ _ us hl => match us, hl with | [_], _ => rfl
theorem bm_files : BindOk "files" "Script.files" st_Script_files ps_Script_files := fun _ _ _ _ _ _ us hl => match us, hl with | [_], _ => rfl
theorem bm_size : BindOk "size" "Script.size" st_Script_size ps_Script_size := fun _ _ _ _ _ _ us hl => match us, hl with | [_], _ => rfl
theorem b_need_straight : ∀ (kV doc pm : Value) (an : Option Addr) (cdv ct : Value) (rest : List Value),
    bindArgs (PySem.W.fnOf "need_straight" "need_straight" (defArgs st_need_straight) (defBody st_need_straight) (defScope st_need_straight) .none kV doc pm an cdv ct) ⟨rest, []⟩ = (newTuple rest >>= fun t => pure [(("scripts" : Str), t)])
  | _, _, _, _, _, _, [] => rfl
  | _, _, _, _, _, _, _ :: _ => rfl
section
variable {K : PySem.W.Frag} {h : Heap} {mg : Str → Option Value} {oc kV dc pm cd ct : Value} {od an : Option Addr} {osl : Array (Option Value)} {f p C : Addr} {st : Stmt} {ps : List Str} {g x q m : Str}
abbrev FunAtX {K : PySem.W.Frag} {h : Heap} (_ : K.In h) := FunAt K
theorem funAt_mk (X : K.In h) (G : h.Ns mainGlobals mg) (b : BindOk x x st ps) (a : PySem.W.nsIn K mainGlobals g = some (some (.ref f)))
    (l : K.lookup f = some ⟨oc, od, .func (PySem.W.fnOf x x (defArgs st) (defBody st) (defScope st) .none kV dc pm an cd ct), osl⟩) (c : PySem.W.codeIn K cd x = true) (k : PySem.W.keepIn K (.ref f) = true) : FunAt K mg g x st ps :=
  have F := fun_mk (st := st) l c k
  ⟨f, _, F, PySem.W.mg_of X G a, F.binds b⟩
theorem funM_mk (b : BindOk m q st ps) (a : PySem.W.findIn K (.ref C) m = some (some (.ref f))) (i : PySem.W.isFn K (.ref f) = true)
    (l : K.lookup f = some ⟨oc, od, .func (PySem.W.fnOf m q (defArgs st) (defBody st) (defScope st) .none kV dc pm an cd ct), osl⟩) (c : PySem.W.codeIn K cd q = true) (k : PySem.W.keepIn K (.ref f) = true) : FunM K C m q st ps :=
  have F := fun_mk (st := st) l c k
  ⟨f, _, F, ⟨a, i, k⟩, F.binds b⟩
theorem funP_mk {rest : List Value} (b : BindOk m q st ps) (a : PySem.W.findIn K (.ref C) m = some (some (.ref p))) (gt : PySem.W.specialIn K (.ref p) "__get__" = some (some (.builtin "property.__get__"))) (tk : PySem.W.takesIn K (.ref p) = some true)
    (rc : PySem.W.recIn K p "property" = some (.ref f :: rest)) (l : K.lookup f = some ⟨oc, od, .func (PySem.W.fnOf m q (defArgs st) (defBody st) (defScope st) .none kV dc pm an cd ct), osl⟩) (c : PySem.W.codeIn K cd q = true)
    (k : PySem.W.keepIn K (.ref f) = true) : FunP K C m q st ps :=
  have F := fun_mk (st := st) l c k
  ⟨p, f, _, F, ⟨a, gt, tk, ⟨rest, rc⟩⟩, F.binds b⟩
theorem star_mk (X : K.In h) (G : h.Ns mainGlobals mg) (a : PySem.W.nsIn K mainGlobals "need_straight" = some (some (.ref f)))
    (l : K.lookup f = some ⟨oc, od, .func (PySem.W.fnOf "need_straight" "need_straight" (defArgs st_need_straight) (defBody st_need_straight) (defScope st_need_straight) .none kV dc pm an cd ct), osl⟩) (c : PySem.W.codeIn K cd "need_straight" = true)
    (k : PySem.W.keepIn K (.ref f) = true) : FunStar K mg "need_straight" st_need_straight "scripts" :=
  ⟨f, oc, od, kV, dc, pm, an, cd, ct, osl, l, c, k, PySem.W.mg_of X G a, b_need_straight kV dc pm an cd ct⟩
end
/-- the class, as it is made -/
def ClsAt (K : PySem.W.Frag) (mg : Str → Option Value) (C : Addr) : Prop := ∃ f : Addr, mg "Script" = some (.ref C) ∧ Mk K C f
section
variable {P : Program} {w : World} {K : PySem.W.Frag} {mg : Str → Option Value} {base : Heap} {C aN aF aO : Addr} {eF eO : Array DictEntry} {nF nO : Nat}
theorem defC_of (D : DefM P w K mg base C "__init__" 4 (spInit C)) (c : ClsAt K mg C) : DefC P w K mg base C "Script" 4 (spInit C) := by
  obtain ⟨f, fd, ps, hm, hb, F⟩ := D
  obtain ⟨g, h1, M⟩ := c
  have e : g = f := by
    have := M.init.symm.trans hm.at_
    injection this with this
    injection this with this
    injection this
  subst e
  exact ⟨g, fd, ps, h1, M, hb, F⟩
theorem all_law {f : Addr} {fd : FuncData} (T : Txt K mg w C aN aF aO eF eO nF nO)
    (F_is_integer : FunAt K mg "is_integer" "is_integer" st_is_integer ps_is_integer)
    (F_is_files : FunAt K mg "is_files" "is_files" st_is_files ps_is_files)
    (F_is_index : FunAt K mg "is_index" "is_index" st_is_index ps_is_index)
    (F_is_call : FunAt K mg "is_call" "is_call" st_is_call ps_is_call)
    (F_is_straight : FunAt K mg "is_straight_calls" "is_straight" st_is_straight ps_is_straight)
    (F_size_of : FunAt K mg "size_of" "size_of" st_size_of ps_size_of)
    (F_on_wheel : FunAt K mg "on_wheel" "on_wheel" st_on_wheel ps_on_wheel)
    (F_moved_by : FunAt K mg "moved_by" "moved_by" st_moved_by ps_moved_by)
    (F_is_place : FunAt K mg "is_place" "is_place" st_is_place ps_is_place)
    (F_place_of : FunAt K mg "place_of" "place_of" st_place_of ps_place_of)
    (F_early : FunAt K mg "early" "early" st_early ps_early)
    (F_passed : FunAt K mg "passed" "passed" st_passed ps_passed)
    (F_moved : FunAt K mg "moved" "moved" st_moved ps_moved)
    (F_need_same_files : FunAt K mg "need_same_files" "need_same_files" st_need_same_files ps_need_same_files)
    (F_parted_in : FunAt K mg "parted_in" "parted_in" st_parted_in ps_parted_in)
    (F_parting_to : FunAt K mg "parting_to" "parting_to" st_parting_to ps_parting_to)
    (F_parting : FunAt K mg "parting" "parting" st_parting ps_parting)
    (F_alike : FunAt K mg "alike" "alike" st_alike ps_alike)
    (F_choices_of : FunAt K mg "choices_of" "choices_of" st_choices_of ps_choices_of)
    (F_kept : FunAt K mg "kept" "kept" st_kept ps_kept)
    (F__law_bag : FunAt K mg "_law_bag" "_law_bag" st__law_bag ps__law_bag)
    (F__law_take : FunAt K mg "_law_take" "_law_take" st__law_take ps__law_take)
    (F__law_one : FunAt K mg "_law_one" "_law_one" st__law_one ps__law_one)
    (F__law_mixed : FunAt K mg "_law_mixed" "_law_mixed" st__law_mixed ps__law_mixed)
    (F__law_pair : FunAt K mg "_law_pair" "_law_pair" st__law_pair ps__law_pair)
    (F__law_number : FunAt K mg "_law_number" "_law_number" st__law_number ps__law_number)
    (F__law_call : FunAt K mg "_law_call" "_law_call" st__law_call ps__law_call)
    (F__law_size : FunAt K mg "_law_size" "_law_size" st__law_size ps__law_size)
    (F__law_small : FunAt K mg "_law_small" "_law_small" st__law_small ps__law_small)
    (F__law_calls : FunAt K mg "_law_calls" "_law_calls" st__law_calls ps__law_calls)
    (F__law_ring : FunAt K mg "_law_ring" "_law_ring" st__law_ring ps__law_ring)
    (F__law_led : FunAt K mg "_law_led" "_law_led" st__law_led ps__law_led)
    (F__law_done : FunAt K mg "_law_done" "_law_done" st__law_done ps__law_done)
    (F__law_places : FunAt K mg "_law_places" "_law_places" st__law_places ps__law_places)
    (F__law_back : FunAt K mg "_law_back" "_law_back" st__law_back ps__law_back)
    (F__law_parted : FunAt K mg "_law_parted" "_law_parted" st__law_parted ps__law_parted)
    (F__law_bound : FunAt K mg "_law_bound" "_law_bound" st__law_bound ps__law_bound)
    (F__law_choices : FunAt K mg "_law_choices" "_law_choices" st__law_choices ps__law_choices)
    (M___init__ : FunM K C "__init__" "Script.__init__" st_Script___init__ ps_Script___init__)
    (M___iter__ : FunM K C "__iter__" "Script.__iter__" st_Script___iter__ ps_Script___iter__)
    (M_calls : FunM K C "calls" "Script.calls" st_Script_calls ps_Script_calls)
    (M_is_straight : FunM K C "is_straight" "Script.is_straight" st_Script_is_straight ps_Script_is_straight)
    (M_files : FunP K C "files" "Script.files" st_Script_files ps_Script_files)
    (M_size : FunP K C "size" "Script.size" st_Script_size ps_Script_size)
    (St : FunStar K mg "need_straight" st_need_straight "scripts") (Cm : ClsAt K mg C) (F : Fun K "law" "law" st_law f fd) : FnOk P w K mg base CX0 11 f fd ps_law (spLaw K) := by
  have D_iter := d_iter (P := P) (base := base) M___iter__ T
  have D_m_calls := d_calls (P := P) (base := base) M_calls T
  have D_files := d_files (P := P) (base := base) M_files T
  have D_is_integer := d_is_integer (P := P) (base := base) F_is_integer T
  have D_is_files := d_is_files (P := P) (base := base) F_is_files T D_is_integer
  have D_is_index := d_is_index (P := P) (base := base) F_is_index T D_is_integer
  have D_is_call := d_is_call (P := P) (base := base) F_is_call T D_is_integer D_is_index
  have D_is_straight_calls := d_is_straight (P := P) (base := base) F_is_straight T
  have D_m_is_straight := d_s_straight (P := P) (base := base) M_is_straight T D_is_straight_calls
  have D_need_straight := d_need_straight (P := P) (base := base) St T D_m_is_straight
  have D_Script := defC_of (d_init (P := P) (base := base) M___init__ T D_is_files D_is_call) Cm
  have D_size_of := d_size_of (P := P) (base := base) F_size_of T
  have D_size := d_size (P := P) (base := base) M_size T D_size_of
  have D_on_wheel := d_on_wheel (P := P) (base := base) F_on_wheel T
  have D_moved_by := d_moved_by (P := P) (base := base) F_moved_by T D_on_wheel
  have D_is_place := d_is_place (P := P) (base := base) F_is_place T D_is_index
  have D_place_of := d_place_of (P := P) (base := base) F_place_of T
  have D_early := d_early (P := P) (base := base) F_early T D_size
  have D_passed := d_passed (P := P) (base := base) F_passed T D_is_place D_files D_iter D_moved_by
  have D_moved := d_moved (P := P) (base := base) F_moved T D_passed
  have D_need_same_files := d_need_same_files (P := P) (base := base) F_need_same_files T D_files
  have D_parted_in := d_parted_in (P := P) (base := base) F_parted_in T D_files D_place_of D_moved
  have D_parting_to := d_parting_to (P := P) (base := base) F_parting_to T D_need_same_files D_parted_in
  have D_parting := d_parting (P := P) (base := base) F_parting T D_need_same_files D_need_straight D_early D_parting_to
  have D_alike := d_alike (P := P) (base := base) F_alike T D_parting
  have D_choices_of := d_choices_of (P := P) (base := base) F_choices_of T
  have D_kept := d_kept (P := P) (base := base) F_kept T D_need_straight D_m_calls D_choices_of D_files D_Script D_alike
  have D__law_bag := d_law_bag (P := P) (base := base) F__law_bag T
  have D__law_take := d_law_take (P := P) (base := base) F__law_take T
  have D__law_one := d_law_one (P := P) (base := base) F__law_one T D__law_take
  have D__law_mixed := d_law_mixed (P := P) (base := base) F__law_mixed T D__law_take
  have D__law_pair := d_law_pair (P := P) (base := base) F__law_pair T D__law_mixed
  have D__law_number := d_law_number (P := P) (base := base) F__law_number T D__law_take
  have D__law_call := d_law_call (P := P) (base := base) F__law_call T D__law_take D__law_pair D__law_number
  have D__law_size := d_law_size (P := P) (base := base) F__law_size T
  have D__law_small := d_law_small (P := P) (base := base) F__law_small T D__law_call D__law_size
  have D__law_calls := d_law_calls (P := P) (base := base) F__law_calls T D__law_take D__law_call D__law_size
  have D__law_ring := d_law_ring (P := P) (base := base) F__law_ring T
  have D__law_led := d_law_led (P := P) (base := base) F__law_led T D__law_ring
  have D__law_done := d_law_done (P := P) (base := base) F__law_done T D__law_led
  have D__law_places := d_law_places (P := P) (base := base) F__law_places T
  have D__law_back := d_law_back (P := P) (base := base) F__law_back T
  have D__law_parted := d_law_parted (P := P) (base := base) F__law_parted T D__law_places D__law_done
  have D__law_bound := d_law_bound (P := P) (base := base) F__law_bound T D__law_size
  have D__law_choices := d_law_choices (P := P) (base := base) F__law_choices T
  exact fn_law F T D__law_bag D__law_take D__law_one D__law_small D__law_calls D__law_back D__law_parted D__law_bound D__law_choices D_Script D_kept
end
theorem last {l : PySem.W.OpenLaw} {w : World} {K : PySem.W.Frag} {h : Heap} {mg : Str → Option Value} {fa C aN aF aO f1 f2 f3 f4 p5 f5 p6 f6 f7 f8 : Addr} (X : K.In h) (G : h.Ns mainGlobals mg) (hfa : mg "law" = some (.ref fa))
    {od1 an1 od2 an2 od3 an3 od4 an4 od5 an5 od6 an6 od7 an7 od8 an8 odN : Option Addr} {sl1 sl2 sl3 sl4 sl5 sl6 sl7 sl8 slN : Array (Option Value)} {oc1 kV1 dc1 pm1 cd1 ct1 oc2 kV2 dc2 pm2 cd2 ct2 oc3 kV3 dc3 pm3 cd3 ct3 oc4 kV4 dc4 pm4 cd4 ct4 oc5 kV5 dc5 pm5 cd5 ct5 oc6 kV6 dc6 pm6 cd6 ct6 oc7 kV7 dc7 pm7 cd7 ct7 oc8 kV8 dc8 pm8 cd8 ct8 : Value} {rs5 rs6 : List Value} {tN1 tN2 tN3 : Tok} {nN nF nO : Nat} {eF eO : Array DictEntry} {tF_all tF_up tF_swap tF_wheel tF_about tF_front : Tok}
    (aC : PySem.W.nsIn K mainGlobals "Script" = some (some (.ref C)))
    (pg : PySem.W.plainGet K C Str.empty = true)
    (hd : PySem.W.hasDictIn K C = true)
    (po : PySem.W.plainOver K C = true)
    (sa : PySem.W.findIn K (.ref C) "__setattr__" = some (some (.builtin "object.__setattr__")))
    (nW : PySem.W.findIn K (.ref C) "width" = some none)
    (nS : PySem.W.findIn K (.ref C) "steps" = some none)
    (mk : PySem.W.makesIn K C = true)
    (kc : PySem.W.keepIn K (.ref C) = true)
    (a1 : PySem.W.findIn K (.ref C) "__init__" = some (some (.ref f1)))
    (i1 : PySem.W.isFn K (.ref f1) = true)
    (l1 : K.lookup f1 = some ⟨oc1, od1, .func (PySem.W.fnOf "__init__" "Script.__init__" (defArgs st_Script___init__) (defBody st_Script___init__) (defScope st_Script___init__) .none kV1 dc1 pm1 an1 cd1 ct1), sl1⟩)
    (c1 : PySem.W.codeIn K cd1 "Script.__init__" = true)
    (k1 : PySem.W.keepIn K (.ref f1) = true)
    (a2 : PySem.W.findIn K (.ref C) "__iter__" = some (some (.ref f2)))
    (i2 : PySem.W.isFn K (.ref f2) = true)
    (l2 : K.lookup f2 = some ⟨oc2, od2, .func (PySem.W.fnOf "__iter__" "Script.__iter__" (defArgs st_Script___iter__) (defBody st_Script___iter__) (defScope st_Script___iter__) .none kV2 dc2 pm2 an2 cd2 ct2), sl2⟩)
    (c2 : PySem.W.codeIn K cd2 "Script.__iter__" = true)
    (k2 : PySem.W.keepIn K (.ref f2) = true)
    (a3 : PySem.W.findIn K (.ref C) "calls" = some (some (.ref f3)))
    (i3 : PySem.W.isFn K (.ref f3) = true)
    (l3 : K.lookup f3 = some ⟨oc3, od3, .func (PySem.W.fnOf "calls" "Script.calls" (defArgs st_Script_calls) (defBody st_Script_calls) (defScope st_Script_calls) .none kV3 dc3 pm3 an3 cd3 ct3), sl3⟩)
    (c3 : PySem.W.codeIn K cd3 "Script.calls" = true)
    (k3 : PySem.W.keepIn K (.ref f3) = true)
    (a4 : PySem.W.findIn K (.ref C) "is_straight" = some (some (.ref f4)))
    (i4 : PySem.W.isFn K (.ref f4) = true)
    (l4 : K.lookup f4 = some ⟨oc4, od4, .func (PySem.W.fnOf "is_straight" "Script.is_straight" (defArgs st_Script_is_straight) (defBody st_Script_is_straight) (defScope st_Script_is_straight) .none kV4 dc4 pm4 an4 cd4 ct4), sl4⟩)
    (c4 : PySem.W.codeIn K cd4 "Script.is_straight" = true)
    (k4 : PySem.W.keepIn K (.ref f4) = true)
    (a5 : PySem.W.findIn K (.ref C) "files" = some (some (.ref p5)))
    (g5 : PySem.W.specialIn K (.ref p5) "__get__" = some (some (.builtin "property.__get__")))
    (t5 : PySem.W.takesIn K (.ref p5) = some true)
    (r5 : PySem.W.recIn K p5 "property" = some (.ref f5 :: rs5))
    (l5 : K.lookup f5 = some ⟨oc5, od5, .func (PySem.W.fnOf "files" "Script.files" (defArgs st_Script_files) (defBody st_Script_files) (defScope st_Script_files) .none kV5 dc5 pm5 an5 cd5 ct5), sl5⟩)
    (c5 : PySem.W.codeIn K cd5 "Script.files" = true)
    (k5 : PySem.W.keepIn K (.ref f5) = true)
    (a6 : PySem.W.findIn K (.ref C) "size" = some (some (.ref p6)))
    (g6 : PySem.W.specialIn K (.ref p6) "__get__" = some (some (.builtin "property.__get__")))
    (t6 : PySem.W.takesIn K (.ref p6) = some true)
    (r6 : PySem.W.recIn K p6 "property" = some (.ref f6 :: rs6))
    (l6 : K.lookup f6 = some ⟨oc6, od6, .func (PySem.W.fnOf "size" "Script.size" (defArgs st_Script_size) (defBody st_Script_size) (defScope st_Script_size) .none kV6 dc6 pm6 an6 cd6 ct6), sl6⟩)
    (c6 : PySem.W.codeIn K cd6 "Script.size" = true)
    (k6 : PySem.W.keepIn K (.ref f6) = true)
    (a7 : PySem.W.nsIn K mainGlobals "law" = some (some (.ref f7)))
    (l7 : K.lookup f7 = some ⟨oc7, od7, .func (PySem.W.fnOf "law" "law" (defArgs st_law) (defBody st_law) (defScope st_law) .none kV7 dc7 pm7 an7 cd7 ct7), sl7⟩)
    (c7 : PySem.W.codeIn K cd7 "law" = true)
    (k7 : PySem.W.keepIn K (.ref f7) = true)
    (a8 : PySem.W.nsIn K mainGlobals "need_straight" = some (some (.ref f8)))
    (l8 : K.lookup f8 = some ⟨oc8, od8, .func (PySem.W.fnOf "need_straight" "need_straight" (defArgs st_need_straight) (defBody st_need_straight) (defScope st_need_straight) .none kV8 dc8 pm8 an8 cd8 ct8), sl8⟩)
    (c8 : PySem.W.codeIn K cd8 "need_straight" = true)
    (k8 : PySem.W.keepIn K (.ref f8) = true)
    (z_len : PySem.W.nsIn K mainGlobals "len" = some none)
    (z_abs : PySem.W.nsIn K mainGlobals "abs" = some none)
    (z_max : PySem.W.nsIn K mainGlobals "max" = some none)
    (z_int : PySem.W.nsIn K mainGlobals "int" = some none)
    (z_isinstance : PySem.W.nsIn K mainGlobals "isinstance" = some none)
    (z_all : PySem.W.nsIn K mainGlobals "all" = some none)
    (z_sum : PySem.W.nsIn K mainGlobals "sum" = some none)
    (z_tuple : PySem.W.nsIn K mainGlobals "tuple" = some none)
    (z_list : PySem.W.nsIn K mainGlobals "list" = some none)
    (z_dict : PySem.W.nsIn K mainGlobals "dict" = some none)
    (z_range : PySem.W.nsIn K mainGlobals "range" = some none)
    (z_iter : PySem.W.nsIn K mainGlobals "iter" = some none)
    (z_str : PySem.W.nsIn K mainGlobals "str" = some none)
    (z_bool : PySem.W.nsIn K mainGlobals "bool" = some none)
    (aN_ : PySem.W.nsIn K mainGlobals "BY_NUMBER" = some (some (.ref aN)))
    (lN : K.lookup aN = some ⟨.type "tuple", odN, .seq #[.str "all" tN1, .str "up" tN2, .str "wheel" tN3] nN, slN⟩)
    (aF_ : PySem.W.nsIn K mainGlobals "BY_FILES" = some (some (.ref aF)))
    (lF : K.lookup aF = some ⟨.type "dict", none, .dict eF nF, #[]⟩)
    (yF : PySem.W.KeysLit w.params eF.toList)
    (wF : (aF == sysModules) = false)
    (x_all : PySem.W.nsIn K aF "all" = some (some (.int 0 tF_all)))
    (x_up : PySem.W.nsIn K aF "up" = some (some (.int 1 tF_up)))
    (x_swap : PySem.W.nsIn K aF "swap" = some (some (.int 2 tF_swap)))
    (x_wheel : PySem.W.nsIn K aF "wheel" = some (some (.int 2 tF_wheel)))
    (x_about : PySem.W.nsIn K aF "about" = some (some (.int 0 tF_about)))
    (x_front : PySem.W.nsIn K aF "front" = some (some (.int 2 tF_front)))
    (aO_ : PySem.W.nsIn K mainGlobals "OPEN_CALLS" = some (some (.ref aO)))
    (lO : K.lookup aO = some ⟨.type "dict", none, .dict eO nO, #[]⟩)
    (yO : PySem.W.KeysLit w.params eO.toList)
    (wO : (aO == sysModules) = false)
    (y_all : PySem.W.nsIn K aO "all" = some none)
    (y_up : PySem.W.nsIn K aO "up" = some none)
    (y_swap : PySem.W.nsIn K aO "swap" = some none)
    (y_wheel : PySem.W.nsIn K aO "wheel" = some none)
    (y_about : PySem.W.nsIn K aO "about" = some none)
    (y_front : PySem.W.nsIn K aO "front" = some none)
    (F_is_integer : FunAt K mg "is_integer" "is_integer" st_is_integer ps_is_integer)
    (F_is_files : FunAt K mg "is_files" "is_files" st_is_files ps_is_files)
    (F_is_index : FunAt K mg "is_index" "is_index" st_is_index ps_is_index)
    (F_is_call : FunAt K mg "is_call" "is_call" st_is_call ps_is_call)
    (F_is_straight : FunAt K mg "is_straight_calls" "is_straight" st_is_straight ps_is_straight)
    (F_size_of : FunAt K mg "size_of" "size_of" st_size_of ps_size_of)
    (F_on_wheel : FunAt K mg "on_wheel" "on_wheel" st_on_wheel ps_on_wheel)
    (F_moved_by : FunAt K mg "moved_by" "moved_by" st_moved_by ps_moved_by)
    (F_is_place : FunAt K mg "is_place" "is_place" st_is_place ps_is_place)
    (F_place_of : FunAt K mg "place_of" "place_of" st_place_of ps_place_of)
    (F_early : FunAt K mg "early" "early" st_early ps_early)
    (F_passed : FunAt K mg "passed" "passed" st_passed ps_passed)
    (F_moved : FunAt K mg "moved" "moved" st_moved ps_moved)
    (F_need_same_files : FunAt K mg "need_same_files" "need_same_files" st_need_same_files ps_need_same_files)
    (F_parted_in : FunAt K mg "parted_in" "parted_in" st_parted_in ps_parted_in)
    (F_parting_to : FunAt K mg "parting_to" "parting_to" st_parting_to ps_parting_to)
    (F_parting : FunAt K mg "parting" "parting" st_parting ps_parting)
    (F_alike : FunAt K mg "alike" "alike" st_alike ps_alike)
    (F_choices_of : FunAt K mg "choices_of" "choices_of" st_choices_of ps_choices_of)
    (F_kept : FunAt K mg "kept" "kept" st_kept ps_kept)
    (F__law_bag : FunAt K mg "_law_bag" "_law_bag" st__law_bag ps__law_bag)
    (F__law_take : FunAt K mg "_law_take" "_law_take" st__law_take ps__law_take)
    (F__law_one : FunAt K mg "_law_one" "_law_one" st__law_one ps__law_one)
    (F__law_mixed : FunAt K mg "_law_mixed" "_law_mixed" st__law_mixed ps__law_mixed)
    (F__law_pair : FunAt K mg "_law_pair" "_law_pair" st__law_pair ps__law_pair)
    (F__law_number : FunAt K mg "_law_number" "_law_number" st__law_number ps__law_number)
    (F__law_call : FunAt K mg "_law_call" "_law_call" st__law_call ps__law_call)
    (F__law_size : FunAt K mg "_law_size" "_law_size" st__law_size ps__law_size)
    (F__law_small : FunAt K mg "_law_small" "_law_small" st__law_small ps__law_small)
    (F__law_calls : FunAt K mg "_law_calls" "_law_calls" st__law_calls ps__law_calls)
    (F__law_ring : FunAt K mg "_law_ring" "_law_ring" st__law_ring ps__law_ring)
    (F__law_led : FunAt K mg "_law_led" "_law_led" st__law_led ps__law_led)
    (F__law_done : FunAt K mg "_law_done" "_law_done" st__law_done ps__law_done)
    (F__law_places : FunAt K mg "_law_places" "_law_places" st__law_places ps__law_places)
    (F__law_back : FunAt K mg "_law_back" "_law_back" st__law_back ps__law_back)
    (F__law_parted : FunAt K mg "_law_parted" "_law_parted" st__law_parted ps__law_parted)
    (F__law_bound : FunAt K mg "_law_bound" "_law_bound" st__law_bound ps__law_bound)
    (F__law_choices : FunAt K mg "_law_choices" "_law_choices" st__law_choices ps__law_choices) :
    ∃ fd : FuncData, (∀ (s : Shared) (u : Value), BindsTo s fd ⟨[u], []⟩ [("_law_script", u)]) ∧
      ∀ base : Heap, K.In base → base.Ns mainGlobals mg → FnOk l.prog w K mg base CX0 11 fa fd ["_law_script"] (spLaw K) := by
  have e := hfa.symm.trans (PySem.W.mg_of X G a7)
  cases e
  have T : Txt K mg w C aN aF aO eF eO nF nO := {
    cl := ⟨pg, hd, po, sa⟩
    nW := nW
    nS := nS
    len := PySem.W.mg_none_of X G z_len
    abs := PySem.W.mg_none_of X G z_abs
    max := PySem.W.mg_none_of X G z_max
    int := PySem.W.mg_none_of X G z_int
    isinstance := PySem.W.mg_none_of X G z_isinstance
    all := PySem.W.mg_none_of X G z_all
    sum := PySem.W.mg_none_of X G z_sum
    tuple := PySem.W.mg_none_of X G z_tuple
    list := PySem.W.mg_none_of X G z_list
    dict := PySem.W.mg_none_of X G z_dict
    range := PySem.W.mg_none_of X G z_range
    iter := PySem.W.mg_none_of X G z_iter
    str := PySem.W.mg_none_of X G z_str
    bool := PySem.W.mg_none_of X G z_bool
    m_BY_NUMBER := PySem.W.mg_of X G aN_
    m_BY_FILES := PySem.W.mg_of X G aF_
    m_OPEN_CALLS := PySem.W.mg_of X G aO_
    t_BY_NUMBER := fun _ => .inr ⟨_, _, _, lN, rfl, rfl, (by show 3 ≤ sizeLine; decide), .cons ⟨_, rfl⟩ (.cons ⟨_, rfl⟩ (.cons ⟨_, rfl⟩ .nil))⟩
    d_BY_FILES := ⟨lF, yF, wF⟩
    d_OPEN_CALLS := ⟨lO, yO, wO⟩
    f_all := ⟨_, x_all⟩
    f_up := ⟨_, x_up⟩
    f_swap := ⟨_, x_swap⟩
    f_wheel := ⟨_, x_wheel⟩
    f_about := ⟨_, x_about⟩
    f_front := ⟨_, x_front⟩
    o_all := y_all
    o_up := y_up
    o_swap := y_swap
    o_wheel := y_wheel
    o_about := y_about
    o_front := y_front }
  exact ⟨PySem.W.fnOf "law" "law" (defArgs st_law) (defBody st_law) (defScope st_law) .none kV7 dc7 pm7 an7 cd7 ct7, fun s v => .of_eq rfl, fun base _ _ =>
    all_law T F_is_integer F_is_files F_is_index F_is_call F_is_straight F_size_of F_on_wheel F_moved_by F_is_place F_place_of F_early F_passed F_moved F_need_same_files F_parted_in F_parting_to F_parting F_alike F_choices_of F_kept F__law_bag F__law_take F__law_one F__law_mixed F__law_pair F__law_number F__law_call F__law_size F__law_small F__law_calls F__law_ring F__law_led F__law_done F__law_places F__law_back F__law_parted F__law_bound F__law_choices
      (funM_mk bm___init__ a1 i1 l1 c1 k1) (funM_mk bm___iter__ a2 i2 l2 c2 k2) (funM_mk bm_calls a3 i3 l3 c3 k3) (funM_mk bm_is_straight a4 i4 l4 c4 k4)
      (funP_mk bm_files a5 g5 t5 r5 l5 c5 k5) (funP_mk bm_size a6 g6 t6 r6 l6 c6 k6)
      (star_mk X G a8 l8 c8 k8) ⟨f1, PySem.W.mg_of X G aC, ⟨mk, a1, i1, kc⟩⟩ (fun_mk (st := st_law) l7 c7 k7)⟩
theorem walk {l : PySem.W.OpenLaw} {q : Program} {loose : List Str} {XP : (Str → Option Value) → Heap → Prop} {YP : World → Heap → Prop} {d : DefRec} {K : Params → PySem.W.Frag} (hn : l.most = some 63) (hdf : d.params.defaults = [])
    (hY : ∀ (w : World) (h : Heap), YP w h → (K w.params).In h)
    (F : ∀ (w : World) (mg : Str → Option Value) (fa : Addr) (h : Heap), (K w.params).In h → h.Ns mainGlobals mg → mg d.name = some (.ref fa) →
      ∃ fd : FuncData, (∀ (s : Shared) (u : Value), BindsTo s fd ⟨[u], []⟩ [("_law_script", u)]) ∧
        ∀ base : Heap, (K w.params).In base → base.Ns mainGlobals mg → FnOk l.prog w (K w.params) mg base CX0 11 fa fd ["_law_script"] (spLaw (K w.params))) :
    PySem.W.WalkO q loose XP YP l.row.toRowW d [] (fun f vs => PySem.call f vs) :=
  L2.walk_of (n := 63) (k := 11) (x := "_law_script") (CX := fun _ => CX0) (sp := fun w => spLaw (K w.params)) hn (by decide) hdf ⟨rfl, by decide, by decide⟩ hY F
    (fun _ _ a ns hl _ hS => ⟨a, ns, rfl, hS, hl, fun _ => rfl⟩) fun _ _ _ _ _ z => z
end K47
open PySem PySem.W PyProof.Rows in
set_option maxHeartbeats 0 in
open_top head for PySem.Challenge.rw_pupilpairs_k47_whole_least_that_is_kept
open PySem PySem.W PyProof.Rows in
set_option maxRecDepth 100000 in
set_option maxHeartbeats 0 in
theorem PySem.Challenge.cw_pupilpairs_k47_whole_least_that_is_kept_holds : PySem.Challenge.rw_pupilpairs_k47_whole_least_that_is_kept.Holds :=
  head (by
  k_fill
  refine K47.walk (l := PySem.Challenge.rw_pupilpairs_k47_whole_least_that_is_kept) rfl rfl (fun w h Y => PySem.W.kIn_of Y) ?F
  case F =>
    intro w mg fa h KX G hmg
    have F_is_integer : K47.FunAtX KX mg "is_integer" "is_integer" K47.st_is_integer K47.ps_is_integer := by
      refine' K47.funAt_mk KX G K47.b_is_integer ?a ?l ?c ?k
      (case a => k_is)
      (case l => k_is)
      (case c => k_is)
      (case k => k_is)
    have F_is_files : K47.FunAtX KX mg "is_files" "is_files" K47.st_is_files K47.ps_is_files := by
      refine' K47.funAt_mk KX G K47.b_is_files ?a ?l ?c ?k
      (case a => k_is)
      (case l => k_is)
      (case c => k_is)
      (case k => k_is)
    have F_is_index : K47.FunAtX KX mg "is_index" "is_index" K47.st_is_index K47.ps_is_index := by
      refine' K47.funAt_mk KX G K47.b_is_index ?a ?l ?c ?k
      (case a => k_is)
      (case l => k_is)
      (case c => k_is)
      (case k => k_is)
    have F_is_call : K47.FunAtX KX mg "is_call" "is_call" K47.st_is_call K47.ps_is_call := by
      refine' K47.funAt_mk KX G K47.b_is_call ?a ?l ?c ?k
      (case a => k_is)
      (case l => k_is)
      (case c => k_is)
      (case k => k_is)
    have F_is_straight : K47.FunAtX KX mg "is_straight_calls" "is_straight" K47.st_is_straight K47.ps_is_straight := by
      refine' K47.funAt_mk KX G K47.b_is_straight ?a ?l ?c ?k
      (case a => k_is)
      (case l => k_is)
      (case c => k_is)
      (case k => k_is)
    have F_size_of : K47.FunAtX KX mg "size_of" "size_of" K47.st_size_of K47.ps_size_of := by
      refine' K47.funAt_mk KX G K47.b_size_of ?a ?l ?c ?k
      (case a => k_is)
      (case l => k_is)
      (case c => k_is)
      (case k => k_is)
    have F_on_wheel : K47.FunAtX KX mg "on_wheel" "on_wheel" K47.st_on_wheel K47.ps_on_wheel := by
      refine' K47.funAt_mk KX G K47.b_on_wheel ?a ?l ?c ?k
      (case a => k_is)
      (case l => k_is)
      (case c => k_is)
      (case k => k_is)
    have F_moved_by : K47.FunAtX KX mg "moved_by" "moved_by" K47.st_moved_by K47.ps_moved_by := by
      refine' K47.funAt_mk KX G K47.b_moved_by ?a ?l ?c ?k
      (case a => k_is)
      (case l => k_is)
      (case c => k_is)
      (case k => k_is)
    have F_is_place : K47.FunAtX KX mg "is_place" "is_place" K47.st_is_place K47.ps_is_place := by
      refine' K47.funAt_mk KX G K47.b_is_place ?a ?l ?c ?k
      (case a => k_is)
      (case l => k_is)
      (case c => k_is)
      (case k => k_is)
    have F_place_of : K47.FunAtX KX mg "place_of" "place_of" K47.st_place_of K47.ps_place_of := by
      refine' K47.funAt_mk KX G K47.b_place_of ?a ?l ?c ?k
      (case a => k_is)
      (case l => k_is)
      (case c => k_is)
      (case k => k_is)
    have F_early : K47.FunAtX KX mg "early" "early" K47.st_early K47.ps_early := by
      refine' K47.funAt_mk KX G K47.b_early ?a ?l ?c ?k
      (case a => k_is)
      (case l => k_is)
      (case c => k_is)
      (case k => k_is)
    have F_passed : K47.FunAtX KX mg "passed" "passed" K47.st_passed K47.ps_passed := by
      refine' K47.funAt_mk KX G K47.b_passed ?a ?l ?c ?k
      (case a => k_is)
      (case l => k_is)
      (case c => k_is)
      (case k => k_is)
    have F_moved : K47.FunAtX KX mg "moved" "moved" K47.st_moved K47.ps_moved := by
      refine' K47.funAt_mk KX G K47.b_moved ?a ?l ?c ?k
      (case a => k_is)
      (case l => k_is)
      (case c => k_is)
      (case k => k_is)
    have F_need_same_files : K47.FunAtX KX mg "need_same_files" "need_same_files" K47.st_need_same_files K47.ps_need_same_files := by
      refine' K47.funAt_mk KX G K47.b_need_same_files ?a ?l ?c ?k
      (case a => k_is)
      (case l => k_is)
      (case c => k_is)
      (case k => k_is)
    have F_parted_in : K47.FunAtX KX mg "parted_in" "parted_in" K47.st_parted_in K47.ps_parted_in := by
      refine' K47.funAt_mk KX G K47.b_parted_in ?a ?l ?c ?k
      (case a => k_is)
      (case l => k_is)
      (case c => k_is)
      (case k => k_is)
    have F_parting_to : K47.FunAtX KX mg "parting_to" "parting_to" K47.st_parting_to K47.ps_parting_to := by
      refine' K47.funAt_mk KX G K47.b_parting_to ?a ?l ?c ?k
      (case a => k_is)
      (case l => k_is)
      (case c => k_is)
      (case k => k_is)
    have F_parting : K47.FunAtX KX mg "parting" "parting" K47.st_parting K47.ps_parting := by
      refine' K47.funAt_mk KX G K47.b_parting ?a ?l ?c ?k
      (case a => k_is)
      (case l => k_is)
      (case c => k_is)
      (case k => k_is)
    have F_alike : K47.FunAtX KX mg "alike" "alike" K47.st_alike K47.ps_alike := by
      refine' K47.funAt_mk KX G K47.b_alike ?a ?l ?c ?k
      (case a => k_is)
      (case l => k_is)
      (case c => k_is)
      (case k => k_is)
    have F_choices_of : K47.FunAtX KX mg "choices_of" "choices_of" K47.st_choices_of K47.ps_choices_of := by
      refine' K47.funAt_mk KX G K47.b_choices_of ?a ?l ?c ?k
      (case a => k_is)
      (case l => k_is)
      (case c => k_is)
      (case k => k_is)
    have F_kept : K47.FunAtX KX mg "kept" "kept" K47.st_kept K47.ps_kept := by
      refine' K47.funAt_mk KX G K47.b_kept ?a ?l ?c ?k
      (case a => k_is)
      (case l => k_is)
      (case c => k_is)
      (case k => k_is)
    have F__law_bag : K47.FunAtX KX mg "_law_bag" "_law_bag" K47.st__law_bag K47.ps__law_bag := by
      refine' K47.funAt_mk KX G K47.b__law_bag ?a ?l ?c ?k
      (case a => k_is)
      (case l => k_is)
      (case c => k_is)
      (case k => k_is)
    have F__law_take : K47.FunAtX KX mg "_law_take" "_law_take" K47.st__law_take K47.ps__law_take := by
      refine' K47.funAt_mk KX G K47.b__law_take ?a ?l ?c ?k
      (case a => k_is)
      (case l => k_is)
      (case c => k_is)
      (case k => k_is)
    have F__law_one : K47.FunAtX KX mg "_law_one" "_law_one" K47.st__law_one K47.ps__law_one := by
      refine' K47.funAt_mk KX G K47.b__law_one ?a ?l ?c ?k
      (case a => k_is)
      (case l => k_is)
      (case c => k_is)
      (case k => k_is)
    have F__law_mixed : K47.FunAtX KX mg "_law_mixed" "_law_mixed" K47.st__law_mixed K47.ps__law_mixed := by
      refine' K47.funAt_mk KX G K47.b__law_mixed ?a ?l ?c ?k
      (case a => k_is)
      (case l => k_is)
      (case c => k_is)
      (case k => k_is)
    have F__law_pair : K47.FunAtX KX mg "_law_pair" "_law_pair" K47.st__law_pair K47.ps__law_pair := by
      refine' K47.funAt_mk KX G K47.b__law_pair ?a ?l ?c ?k
      (case a => k_is)
      (case l => k_is)
      (case c => k_is)
      (case k => k_is)
    have F__law_number : K47.FunAtX KX mg "_law_number" "_law_number" K47.st__law_number K47.ps__law_number := by
      refine' K47.funAt_mk KX G K47.b__law_number ?a ?l ?c ?k
      (case a => k_is)
      (case l => k_is)
      (case c => k_is)
      (case k => k_is)
    have F__law_call : K47.FunAtX KX mg "_law_call" "_law_call" K47.st__law_call K47.ps__law_call := by
      refine' K47.funAt_mk KX G K47.b__law_call ?a ?l ?c ?k
      (case a => k_is)
      (case l => k_is)
      (case c => k_is)
      (case k => k_is)
    have F__law_size : K47.FunAtX KX mg "_law_size" "_law_size" K47.st__law_size K47.ps__law_size := by
      refine' K47.funAt_mk KX G K47.b__law_size ?a ?l ?c ?k
      (case a => k_is)
      (case l => k_is)
      (case c => k_is)
      (case k => k_is)
    have F__law_small : K47.FunAtX KX mg "_law_small" "_law_small" K47.st__law_small K47.ps__law_small := by
      refine' K47.funAt_mk KX G K47.b__law_small ?a ?l ?c ?k
      (case a => k_is)
      (case l => k_is)
      (case c => k_is)
      (case k => k_is)
    have F__law_calls : K47.FunAtX KX mg "_law_calls" "_law_calls" K47.st__law_calls K47.ps__law_calls := by
      refine' K47.funAt_mk KX G K47.b__law_calls ?a ?l ?c ?k
      (case a => k_is)
      (case l => k_is)
      (case c => k_is)
      (case k => k_is)
    have F__law_ring : K47.FunAtX KX mg "_law_ring" "_law_ring" K47.st__law_ring K47.ps__law_ring := by
      refine' K47.funAt_mk KX G K47.b__law_ring ?a ?l ?c ?k
      (case a => k_is)
      (case l => k_is)
      (case c => k_is)
      (case k => k_is)
    have F__law_led : K47.FunAtX KX mg "_law_led" "_law_led" K47.st__law_led K47.ps__law_led := by
      refine' K47.funAt_mk KX G K47.b__law_led ?a ?l ?c ?k
      (case a => k_is)
      (case l => k_is)
      (case c => k_is)
      (case k => k_is)
    have F__law_done : K47.FunAtX KX mg "_law_done" "_law_done" K47.st__law_done K47.ps__law_done := by
      refine' K47.funAt_mk KX G K47.b__law_done ?a ?l ?c ?k
      (case a => k_is)
      (case l => k_is)
      (case c => k_is)
      (case k => k_is)
    have F__law_places : K47.FunAtX KX mg "_law_places" "_law_places" K47.st__law_places K47.ps__law_places := by
      refine' K47.funAt_mk KX G K47.b__law_places ?a ?l ?c ?k
      (case a => k_is)
      (case l => k_is)
      (case c => k_is)
      (case k => k_is)
    have F__law_back : K47.FunAtX KX mg "_law_back" "_law_back" K47.st__law_back K47.ps__law_back := by
      refine' K47.funAt_mk KX G K47.b__law_back ?a ?l ?c ?k
      (case a => k_is)
      (case l => k_is)
      (case c => k_is)
      (case k => k_is)
    have F__law_parted : K47.FunAtX KX mg "_law_parted" "_law_parted" K47.st__law_parted K47.ps__law_parted := by
      refine' K47.funAt_mk KX G K47.b__law_parted ?a ?l ?c ?k
      (case a => k_is)
      (case l => k_is)
      (case c => k_is)
      (case k => k_is)
    have F__law_bound : K47.FunAtX KX mg "_law_bound" "_law_bound" K47.st__law_bound K47.ps__law_bound := by
      refine' K47.funAt_mk KX G K47.b__law_bound ?a ?l ?c ?k
      (case a => k_is)
      (case l => k_is)
      (case c => k_is)
      (case k => k_is)
    have F__law_choices : K47.FunAtX KX mg "_law_choices" "_law_choices" K47.st__law_choices K47.ps__law_choices := by
      refine' K47.funAt_mk KX G K47.b__law_choices ?a ?l ?c ?k
      (case a => k_is)
      (case l => k_is)
      (case c => k_is)
      (case k => k_is)
    refine' K47.last KX G hmg ?aC ?pg ?hd ?po ?sa ?nW ?nS ?mk ?kc ?a1 ?i1 ?l1 ?c1 ?k1 ?a2 ?i2 ?l2 ?c2 ?k2 ?a3 ?i3 ?l3 ?c3 ?k3 ?a4 ?i4 ?l4 ?c4 ?k4 ?a5 ?g5 ?t5 ?r5 ?l5 ?c5 ?k5 ?a6 ?g6 ?t6 ?r6 ?l6 ?c6 ?k6 ?a7 ?l7 ?c7 ?k7 ?a8 ?l8 ?c8 ?k8 ?z_len ?z_abs ?z_max ?z_int ?z_isinstance ?z_all ?z_sum ?z_tuple ?z_list ?z_dict ?z_range ?z_iter ?z_str ?z_bool ?aN_ ?lN ?aF_ ?lF ?yF ?wF ?x_all ?x_up ?x_swap ?x_wheel ?x_about ?x_front ?aO_ ?lO ?yO ?wO ?y_all ?y_up ?y_swap ?y_wheel ?y_about ?y_front F_is_integer F_is_files F_is_index F_is_call F_is_straight F_size_of F_on_wheel F_moved_by F_is_place F_place_of F_early F_passed F_moved F_need_same_files F_parted_in F_parting_to F_parting F_alike F_choices_of F_kept F__law_bag F__law_take F__law_one F__law_mixed F__law_pair F__law_number F__law_call F__law_size F__law_small F__law_calls F__law_ring F__law_led F__law_done F__law_places F__law_back F__law_parted F__law_bound F__law_choices
    (case aC => k_is)
    (case pg => k_is)
    (case hd => k_is)
    (case po => k_is)
    (case sa => k_is)
    (case nW => k_is)
    (case nS => k_is)
    (case mk => k_is)
    (case kc => k_is)
    (case a1 => k_is)
    (case i1 => k_is)
    (case l1 => k_is)
    (case c1 => k_is)
    (case k1 => k_is)
    (case a2 => k_is)
    (case i2 => k_is)
    (case l2 => k_is)
    (case c2 => k_is)
    (case k2 => k_is)
    (case a3 => k_is)
    (case i3 => k_is)
    (case l3 => k_is)
    (case c3 => k_is)
    (case k3 => k_is)
    (case a4 => k_is)
    (case i4 => k_is)
    (case l4 => k_is)
    (case c4 => k_is)
    (case k4 => k_is)
    (case a5 => k_is)
    (case g5 => k_is)
    (case t5 => k_is)
    (case r5 => k_is)
    (case l5 => k_is)
    (case c5 => k_is)
    (case k5 => k_is)
    (case a6 => k_is)
    (case g6 => k_is)
    (case t6 => k_is)
    (case r6 => k_is)
    (case l6 => k_is)
    (case c6 => k_is)
    (case k6 => k_is)
    (case a7 => k_is)
    (case l7 => k_is)
    (case c7 => k_is)
    (case k7 => k_is)
    (case a8 => k_is)
    (case l8 => k_is)
    (case c8 => k_is)
    (case k8 => k_is)
    (case z_len => k_is)
    (case z_abs => k_is)
    (case z_max => k_is)
    (case z_int => k_is)
    (case z_isinstance => k_is)
    (case z_all => k_is)
    (case z_sum => k_is)
    (case z_tuple => k_is)
    (case z_list => k_is)
    (case z_dict => k_is)
    (case z_range => k_is)
    (case z_iter => k_is)
    (case z_str => k_is)
    (case z_bool => k_is)
    (case aN_ => k_is)
    (case lN => k_is)
    (case aF_ => k_is)
    (case lF => k_is)
    (case yF => k_keys)
    (case wF => decide)
    (case x_all => k_is)
    (case x_up => k_is)
    (case x_swap => k_is)
    (case x_wheel => k_is)
    (case x_about => k_is)
    (case x_front => k_is)
    (case aO_ => k_is)
    (case lO => k_is)
    (case yO => k_keys)
    (case wO => decide)
    (case y_all => k_is)
    (case y_up => k_is)
    (case y_swap => k_is)
    (case y_wheel => k_is)
    (case y_about => k_is)
    (case y_front => k_is))
