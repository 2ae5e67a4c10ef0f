import PyProof.Rows.All
import Wide.All
import OpenK.AllK
import Wide.FinOn
import KE.KStateDown
import HandS.ForMost
import HandS.More
import HandS.Exc
import HandS.Defaults
import HandS.Lambda
import HandS.EndBits
import HandS.EndTab
import PyProof.ReprRoads
import HandS.Evl
import HandS.IsInst
import HandS.TupAny
import HandS.Style
import HandS.OwnEq
import HandS.Property
import HandS.MakeKwOnly
import HandS.Strs
import HandS.Head0
import HandS.Head1
import HandS.Head2
import HandS.HeadEnd
import HandS.HeadHook1
import HandS.HeadHook2
import HandS.HeadHook3
import HandS.HeadHook4
import HandS.HeadWalk
import PyProof.TupleOfSeq
import PyProof.Rows.StrMeet
import PySem.Challenge.RW_heldlives_k02_books_told
set_option Elab.async false
set_option linter.all false
set_option maxRecDepth 100000
set_option maxHeartbeats 4000000
namespace HL
open PySem PySem.Spec PyProof.Rows L2

/-! ### defs that are called where no repr is under way -/
structure FnG (P : Program) (w : World) (K : PySem.W.Frag) (mg : Str → Option Value) (base : Heap) (cx : CXT) (k : Nat) (f : Addr) (fd : FuncData) (ps : List Str) (sp : Sp) : Prop where
  glen : ∀ vs H Q E, sp vs H Q E → vs.length = ps.length
  grun : ∀ (A : Around) (outer : List Env) (s : Shared) (H : Hp) (args : Args) (us : List Value) (vs : List V) (Q : VK) (E : XK),
    A.guards = some [] → Room k A → Env0 P w K mg base A outer s H → BindsTo s fd args (ps.zip us) → Vals vs us → sp vs H Q E →
    codeAny (model P w) A (.call (.ref f) args) (CR cx outer P w H s Q E) s

section
variable {P : Program} {w : World} {K : PySem.W.Frag} {mg : Str → Option Value} {base : Heap} {cx : CXT} {k : Nat} {f : Addr} {fd : FuncData} {ps : List Str} {sp : Sp}
theorem FnG.of (F : FnOk P w K mg base cx k f fd ps sp) : FnG P w K mg base cx k f fd ps sp :=
  ⟨F.len, fun A outer s H args us vs Q E _ => F.run A outer s H args us vs Q E⟩
theorem FnG.up {j : Nat} (F : FnG P w K mg base cx j f fd ps sp) (h : j ≤ k) : FnG P w K mg base cx k f fd ps sp :=
  ⟨F.glen, fun A outer s H args us vs Q E g r => F.grun A outer s H args us vs Q E g (r.mono h)⟩
end

section
variable {X : Cx} {cx : CXT} {k : Nat} {f : Addr} {fd : FuncData} {ps : List Str} {sp : Sp} {dvs : List V} {ds : List Value} {E : XK} {x : Str} {p pos : Pos} {e : Expr} {es : List Expr} {t : TA}
/-- f(e, ..) -/
theorem pe_callg (F : FnG X.prog X.w X.K X.mg X.base cx k f fd ps sp) (gd : X.A.guards = some []) (hr : Room k X.A) (hg : Gl X x) (hm : X.mg x = some (.ref f))
    (hk : PySem.W.keepIn X.K (.ref f) = true) (hb : Binds X.K fd ps ds) (hd : Vals dvs ds) (hx : Passes cx X E) (ha : PA X (e :: es) t)
    (hdb : (x == ("__debug__" : Str)) = false := by decide) (he : starEach (e :: es) X.env = (false, eval e X.env) :: starEach es X.env := by rfl)
    (hpl : (backTo pos (starEach es X.env)).any (·.1) = false := by rfl) : PE X (.Call (.Name x p) (e :: es) [] pos) (tCall sp dvs E t) := by
  refine ⟨fun pins s σ H Q I h => wpAny_Call_Name_kw (ld_glob I hg hm ?_ hdb)⟩
  refine PySem.W.callWith_K (h₀ := X.base) I.ok.mod.kin hk ?_ he hpl
  refine thn (ha.run pos pins s σ H _ I h) fun us s1 hh => ?_
  obtain ⟨vs, H1, I1, r, q⟩ := hh
  have r2 : Vals (vs ++ dvs) (us ++ ds) := r.append hd
  have hl : (us ++ ds).length = ps.length := r2.length.symm.trans (F.glen _ _ _ _ q)
  refine ⟨I1.kIn, wpAny_call (codeAny_mono (F.grun X.A X.stack s1 H1 ⟨us, []⟩ _ _ Q E gd hr I1.env0 (hb s1 us I1.kIn hl) r2 q) fun res s2 hq => ?_)⟩
  match res, hq with
  | .error e', hq => exact hx pins σ H1 s1 e' s2 I1 hq
  | .ok (.ret u), hq => exact I1.after hq
end

section
variable {P : Program} {w : World} {K : PySem.W.Frag} {mg : Str → Option Value} {base : Heap}
/-- a def of the text as a datum: where it stands and what it is -/
abbrev FnP (K : PySem.W.Frag) (x q : Str) (st : Stmt) (dv : List V) (kw : List (Str × V)) (f : Addr) (fd : FuncData) : Prop :=
  FunD K x q (defArgs st) (defBody st) (defScope st) dv kw f fd
theorem okG {x q : Str} {st : Stmt} {dv : List V} {kw : List (Str × V)} {f : Addr} {fd : FuncData} {N ps : List Str} {k : Nat} {sp : Sp} (F : FnP K x q st dv kw f fd) (S : FnScope N ps (defScope st))
    (len : ∀ vs H Q E, sp vs H Q E → vs.length = ps.length)
    (hb : ∀ (cdv : Value) (A : Around) (outer : List Env) (s : Shared) (H : Hp) (vs : List V) (Q : VK) (E : XK), A.guards = some [] → Room k (A.deeper (envOfC q (defScope st) s.heap.objs.size f cdv)) → sp vs H Q E →
      ∃ t, PSs (cxOf CX0 P w K mg base N q (defScope st) f cdv A outer s H E).nox (defBody st) t ∧ t { nx := fun _ H' => Q .non H', rt := Q } (start N vs) H) :
    FnG P w K mg base CX0 (k + 1) f fd ps sp := by
  obtain ⟨⟨oc, od, dV, kV, doc, pm, an, cdv, ct, osl, rfl, lk, hcd, _⟩, _⟩ := F
  refine ⟨len, fun A outer s H args us vs Q E g hr e0 bt r h => ?_⟩
  refine LamX.run_ofS (N := N) lk hcd S hr e0 bt r (len _ _ _ _ h) fun hr' => ?_
  obtain ⟨t, h1, h2⟩ := hb cdv A outer s H vs Q E g hr' h
  exact ⟨t, h1.nox, h2⟩
end

/-! ### repr of data -/
def rRepr (K : PySem.W.Frag) : List V → Hp → VK → Prop := fun xs H Q => ∃ x d, xs = [x] ∧ Dp K H x d ∧ d.showable = true ∧ d.hasDict = false ∧ d.depth ≤ 60 ∧ d.shown.length ≤ sizeLine ∧ Q (.str d.shown) H
theorem call_repr {X : Cx} (gd : X.A.guards = some []) (hu : X.A.units + 64 < cLine) : CallR X (.builtin "repr") (rRepr X.K) := by
  intro pins s σ H xs us Q I r h
  obtain ⟨x, d, rfl, hd, hs, hn, hdp, hz, q⟩ := h
  cases r with
  | cons r0 rn =>
    cases rn
    cases hd with
    | non =>
      cases r0
      exact PySem.P.repr_of_none ⟨V.str "None", H, I.tok _, ⟨_, rfl⟩, q⟩
    | bl b =>
      cases r0
      exact PySem.P.repr_of_bool ⟨V.str (if b then "True" else "False"), H, I.tok _, ⟨_, rfl⟩, q⟩
    | int i =>
      obtain ⟨t, rfl⟩ := r0
      exact PySem.P.repr_of_int (by simpa [PyData.showable] using hs) ⟨V.str (toString i), H, I.tok _, ⟨_, rfl⟩, q⟩
    | str z =>
      obtain ⟨t, rfl⟩ := r0
      exact PySem.P.repr_of_str ⟨V.str (reprText z), H, I.tok _, ⟨_, rfl⟩, q⟩ hz
    | lst h1 h2 =>
      cases r0
      obtain ⟨as, rr⟩ := Dp.reads I _ _ _ (Dp.lst h1 h2) rfl
      exact repr_of_reads' (h₀ := s.heap) rr hs (fun z => by rw [hn] at z; cases z) gd (by omega) (fun _ _ e => e) (fun h' u tk hk => ⟨V.str (PyData.shown _), H, I.kept (t' := tk) hk, ⟨_, rfl⟩, q⟩) hz
    | tup h1 h2 =>
      cases r0
      obtain ⟨as, rr⟩ := Dp.reads I _ _ _ (Dp.tup h1 h2) rfl
      exact repr_of_reads' (h₀ := s.heap) rr hs (fun z => by rw [hn] at z; cases z) gd (by omega) (fun _ _ e => e) (fun h' u tk hk => ⟨V.str (PyData.shown _), H, I.kept (t' := tk) hk, ⟨_, rfl⟩, q⟩) hz
end HL

namespace HL
open PySem PySem.Spec PyProof.Rows L2
/-- the abstract heap at a law's entry: the tables, and the script where the module does not hold it -/
def entryHp (K : PySem.W.Frag) (ts : List Addr) (a : Addr) (o : Obj) (xs : List V) : Hp := fun b =>
  if b ∈ ts then some (.tbl #[]) else if b = a ∧ K.lookup a = none then some (.frz o (.lst xs)) else none
section
variable {K : PySem.W.Frag} {ts : List Addr} {a : Addr} {o : Obj} {xs : List V}
theorem entry_tab {b : Addr} (h : b ∈ ts) : entryHp K ts a o xs b = some (.tbl #[]) := if_pos h
theorem entry_cases (b : Addr) : (b ∈ ts ∧ entryHp K ts a o xs b = some (.tbl #[])) ∨ (b ∉ ts ∧ b = a ∧ K.lookup a = none ∧ entryHp K ts a o xs b = some (.frz o (.lst xs))) ∨ (b ∉ ts ∧ entryHp K ts a o xs b = none) := by
  by_cases h : b ∈ ts
  · exact .inl ⟨h, if_pos h⟩
  · by_cases h2 : b = a ∧ K.lookup a = none
    · exact .inr (.inl ⟨h, h2.1, h2.2, (if_neg h).trans (if_pos h2)⟩)
    · exact .inr (.inr ⟨h, (if_neg h).trans (if_neg h2)⟩)
end
theorem lawG {P : Program} {w : World} {K : PySem.W.Frag} {mg mb : Str → Option Value} {cx : CXT} {k : Nat} {fa a : Addr} {cs : List (Addr × Addr)} {fd : FuncData} {x : Str} {sp : Sp} {s : Shared} {us : List Value} {ns : List Int}
    (KX : K.In s.heap) (gl : s.heap.Ns mainGlobals mg) (bl : s.heap.Ns builtinsNs mb) (bb : ∀ x : Str, x ≠ "__name__" → mb x = bootBuiltins x) (lim : s.heap.NoLimit) (ge : s.gens = #[])
    (tE : ∀ p ∈ cs, s.heap.get? p.2 = some { cls := .none, data := .fields #[] }) (tN : ∀ p ∈ cs, K.lookup p.2 = none) (tC : ∀ p ∈ cs, PySem.W.CodeHd s.heap p.1 p.2)
    (bm : ∃ (m : Addr) (ob : Obj), mg "__builtins__" = some (.ref m) ∧ m ≠ builtinsNs ∧ s.heap.get? m = some ob ∧ ob.cls = .type "module" ∧ ob.dict = some builtinsNs ∧ ob.data = .plain)
    (ha : s.heap.get? a = some { cls := .type "list", data := .seq us.toArray }) (hi : IntsAre us ns) (hl : ns.length ≤ sizeLine) (hr : Room k callerA)
    (F : ∀ base : Heap, K.In base → base.Ns mainGlobals mg → (∀ p ∈ cs, LamX.TabB base mg p.1 p.2) → FnG P w K mg base cx k fa fd [x] sp) (hb : ∀ (s : Shared) (u : Value), BindsTo s fd ⟨[u], []⟩ [(x, u)])
    (hsp : ∀ H : Hp, (∀ p ∈ cs, H p.2 = some (.tbl #[])) → SqL K H a (ns.map V.int) → sp [.ref a] H (fun v _ => v = .bl true) fun _ _ _ => False)
    (hcx : ∀ H e s', cx [] H s (fun _ _ _ => False) e s' → False) :
    codeAny (model P w) callerA (.call (.ref fa) ⟨[.ref a], []⟩) (fun r s' => r = .ok (.ret (.bool true)) ∧ OldK s.heap s'.heap ∧ s'.os = s.os ∧ AllBare s'.gens) s := by
  have tabOf : ∀ b, b ∈ cs.map (·.2) → ∃ p ∈ cs, p.2 = b := fun b hb => by simpa using hb
  have tG : ∀ b, b ∈ cs.map (·.2) → s.heap.get? b = some { cls := .none, data := .fields #[] } := fun b hb => by
    obtain ⟨p, hp, rfl⟩ := tabOf b hb
    exact tE p hp
  have nA : a ∉ cs.map (·.2) := fun hb => by
    have q := (tG a hb).symm.trans ha
    have q2 := congrArg Obj.data (Option.some.inj q)
    cases q2
  generalize hH : entryHp K (cs.map (·.2)) a { cls := .type "list", data := .seq us.toArray } (ns.map V.int) = H
  have cas : ∀ b, (b ∈ cs.map (·.2) ∧ H b = some (.tbl #[])) ∨ (b ∉ cs.map (·.2) ∧ b = a ∧ K.lookup a = none ∧ H b = some (.frz { cls := .type "list", data := .seq us.toArray } (.lst (ns.map V.int)))) ∨ (b ∉ cs.map (·.2) ∧ H b = none) := fun b => by
    rw [← hH]
    exact entry_cases b
  have hT : ∀ p ∈ cs, H p.2 = some (.tbl #[]) := fun p hp => by
    rw [← hH]
    exact entry_tab (List.mem_map.mpr ⟨p, hp, rfl⟩)
  have rv := vals_ints hi
  have sq : SqL K H a (ns.map V.int) := by
    cases q : K.lookup a with
    | some o =>
      have e := (KX a o q).symm.trans ha
      have eo := Option.some.inj e
      subst eo
      exact .inr ⟨_, us.toArray, _, q, rfl, rfl, rfl, by simpa [hi.length] using hl, by simpa using rv⟩
    | none =>
      rcases cas a with ⟨z, _⟩ | ⟨_, _, _, z⟩ | ⟨_, z⟩
      · exact absurd z nA
      · exact .inl (.inr ⟨_, z⟩)
      · rw [← hH] at z
        have z2 := (show entryHp K (cs.map (·.2)) a { cls := .type "list", data := .seq us.toArray } (ns.map V.int) a = _ from (if_neg nA).trans (if_pos ⟨rfl, q⟩)).symm.trans z
        cases z2
  have hok : HOk P w H s.heap := fun b u e => by
    rcases cas b with ⟨h1, h2⟩ | ⟨_, h1, _, h2⟩ | ⟨_, h2⟩
    · have e1 := Option.some.inj (e.symm.trans h2)
      subst e1
      exact tG b h1
    · have e1 := Option.some.inj (e.symm.trans h2)
      subst e1 h1
      exact ⟨ha, by simpa using hl, us, _, rv, ha⟩
    · rw [h2] at e
      cases e
  -- what is no empty record and no list isn't tracked
  have off : ∀ {b : Addr} {o : Obj}, s.heap.get? b = some o → o.data ≠ .fields #[] → (∀ v n, o.data ≠ .seq v n) → H b = none := fun {b o} e n1 n2 => by
    rcases cas b with ⟨h1, _⟩ | ⟨_, h1, _, _⟩ | ⟨_, h2⟩
    · rw [tG b h1] at e
      cases e
      exact absurd rfl n1
    · rw [h1, ha] at e
      cases e
      exact absurd rfl (n2 _ _)
    · exact h2
  have nsB : ∀ {b : Addr} {m : Str → Option Value}, s.heap.Ns b m → (hidT s.heap H).Ns b m := fun {b m} ⟨o, es, ep, e, d, r⟩ =>
    ⟨o, es, ep, hidT_get e (off e (by rw [d]; intro z; cases z) (by rw [d]; intro v n z; cases z)), d, r⟩
  have kB : K.In (hidT s.heap H) := fun b o e => hidT_get (KX b o e) (by
    rcases cas b with ⟨h1, _⟩ | ⟨_, h1, h3, _⟩ | ⟨_, h2⟩
    · obtain ⟨p, hp, rfl⟩ := tabOf b h1
      rw [tN p hp] at e
      cases e
    · rw [h1, h3] at e
      cases e
    · exact h2)
  have tb : ∀ p ∈ cs, LamX.TabB (hidT s.heap H) mg p.1 p.2 := fun p hp => by
    refine ⟨?_, ?_, fun z => ?_⟩
    · obtain ⟨o, vs, fi, tf, fl, tg, inF, tx, tt, e1, r1, r2, r3, r⟩ := tC p hp
      refine ⟨o, vs, fi, tf, fl, tg, inF, tx, tt, hidT_get e1 (off e1 (fun z => ?_) fun v n z => ?_), r1, r2, r3, r⟩
      · rw [r2] at z
        cases z
        simp at r3
      · rw [r2] at z
        cases z
    · obtain ⟨m, ob, b1, b2, b3, b4, b5, b6⟩ := bm
      refine ⟨m, ob, b1, b2, fun q => ?_, fun q => ?_, hidT_get b3 (off b3 (by rw [b6]; intro z; cases z) (by rw [b6]; intro v n z; cases z)), b4, b5, b6⟩
      · obtain ⟨o, es, ep, e, hd, _⟩ := gl
        rw [q, e] at b3
        cases b3
        rw [hd] at b6
        cases b6
      · rw [q, tE p hp] at b3
        cases b3
        cases b6
    · obtain ⟨o, es, ep, e, hd, _⟩ := gl
      rw [z, tE p hp] at e
      cases e
      cases hd
  have md : L2.Mod K mg (hidT s.heap H) := ⟨kB, nsB gl, ⟨mb, nsB bl, bb⟩, by
    obtain ⟨mc, h1, h2⟩ := lim
    exact ⟨mc, nsB h1, h2⟩⟩
  have e0 : Env0 P w K mg (hidT s.heap H) callerA [] s H := ⟨rfl, md, fun b o e => of_hidT e, Nat.le_of_eq (hidT_size _ _), trivial, fun b z => absurd (show b ∈ ([] : List Addr) from z) (by simp), hok, .of_eq ge⟩
  refine codeAny_mono ((F _ kB (nsB gl) tb).grun callerA [] s H ⟨[.ref a], []⟩ [.ref a] [.ref a] _ _ rfl hr e0 (hb s (.ref a)) (.cons rfl .nil) (hsp H hT sq)) fun r s' h => ?_
  match r, h with
  | .error e, h => exact (hcx H e s' h).elim
  | .ok (.ret u), h =>
    obtain ⟨v, H', os, bare, un, hok', rr, q⟩ := h
    have q1 : v = .bl true := q
    subst q1
    cases rr
    have stays : ∀ b o, b ∉ cs.map (·.2) → s.heap.get? b = some o → s'.heap.get? b = some o := fun b o nb e => by
      rcases cas b with ⟨h1, _⟩ | ⟨_, h1, _, h2⟩ | ⟨_, h2⟩
      · exact absurd h1 nb
      · obtain ⟨e1, _⟩ := hok b _ h2
        obtain ⟨e2, _⟩ := hok' b _ (un.frzs b _ _ h2)
        rw [e] at e1
        cases e1
        exact e2
      · exact un.keep b o e h2 (fun z => absurd (show b ∈ ([] : List Addr) from z) (by simp)) (by simp)
    refine ⟨rfl, ⟨fun b o e => ?_, fun b o e => ?_⟩, os, bare⟩
    all_goals
      by_cases hb : b ∈ cs.map (·.2)
      · obtain ⟨p, hp, rfl⟩ := tabOf b hb
        obtain ⟨more, z⟩ := un.tbls p.2 #[] (hT p hp)
        have hm : s'.heap.get? p.2 = some { cls := .none, data := .fields (#[] ++ more) } := hok' p.2 _ z
        first
          | (rw [tE p hp] at e
             cases e
             exact .inr (.inl ⟨((tC p hp).tab (tE p hp)).isCodeTable, rfl, #[], more, rfl, hm⟩))
          | exact ⟨_, hm⟩
      · first
          | exact .inl (stays b o hb e)
          | exact ⟨o, stays b o hb e⟩
/-- what is to be said of a law at a world -/
def LawAtG (l : PySem.W.OpenLaw) (w : World) (K : PySem.W.Frag) (cx : CXT) (k n : Nat) (x : Str) (mg : Str → Option Value) (fa : Addr) (h : Heap) : Prop :=
  ∃ (fd : FuncData) (cs : List (Addr × Addr)) (sp : Sp), (∀ p ∈ cs, h.get? p.2 = some { cls := .none, data := .fields #[] }) ∧ (∀ p ∈ cs, K.lookup p.2 = none) ∧ (∀ p ∈ cs, PySem.W.CodeHd h p.1 p.2) ∧
    (∀ (s : Shared) (u : Value), BindsTo s fd ⟨[u], []⟩ [(x, u)]) ∧
    (∀ (H : Hp) (a : Addr) (ns : List Int), ns.length ≤ n → (∀ z ∈ ns, Builtin.Int.intBits z ≤ 1048576) → (∀ p ∈ cs, H p.2 = some (.tbl #[])) → SqL K H a (ns.map V.int) → sp [.ref a] H (fun v _ => v = .bl true) fun _ _ _ => False) ∧
    ∀ base : Heap, K.In base → base.Ns mainGlobals mg → (∀ p ∈ cs, LamX.TabB base mg p.1 p.2) → FnG l.prog w K mg base cx k fa fd [x] sp
theorem walkG {l : PySem.W.OpenLaw} {n k : Nat} {q : Program} {loose : List Str} {XP : (Str → Option Value) → Heap → Prop} {YP : World → Heap → Prop} {d : DefRec} {cx : World → CXT} {x : Str}
    (hn : l.most = some n) (hn2 : n ≤ sizeLine) (hdf : d.params.defaults = []) (hr : Room k callerA)
    (F : ∀ (w : World) (mg : Str → Option Value) (fa : Addr) (h : Heap), YP w h → h.Ns mainGlobals mg → mg d.name = some (.ref fa) → ∃ K : PySem.W.Frag, K.In h ∧ LawAtG l w K (cx w) k n x mg fa h)
    (hcx : ∀ (w : World) (H : Hp) (s : Shared) (e : Value) (s' : Shared), cx w [] H s (fun _ _ _ => False) e s' → False) :
    PySem.W.WalkO q loose XP YP l.row.toRowW d [] (fun f vs => PySem.call f vs) :=
  Att.attach_callB hn hdf fun w s0 s1 mg mb fa o pm cd doc a vs ns G Y ho hd hcd hmg hobj hints hlen hbits hg => by
    obtain ⟨K, KX, fd, cs, sp, h1, h2, h3, h4, h5, h6⟩ := F w mg fa _ Y G.T.g hmg
    exact lawG KX G.T.g G.T.b G.T.builtins G.T.nolimit hg h1 h2 h3 G.T.bmain hobj hints (Nat.le_trans hlen hn2) hr h6 h4 (fun H q1 q2 => h5 H a ns hlen hbits q1 q2) fun H e s' => hcx w H s1 e s'
end HL

namespace HL
open PySem PySem.Spec PyProof.Rows L2
/-! ### things whose content is left open -/
def noHp : Hp := fun _ => none
/-- at a stands something of the kind S, whatever it is -/
def some_ (P : Program) (w : World) (S : HO → Prop) (a : Addr) : HO := .ext fun h => ∃ o, S o ∧ ObjOk P w noHp h a o
/-- a kind of lists and dicts -/
def Flat (S : HO → Prop) : Prop := ∀ o, S o → (∃ xs, o = .lst xs) ∨ ∃ kvs, o = .dK kvs
theorem flat_any {P : Program} {w : World} {S : HO → Prop} (fl : Flat S) {o : HO} (h : S o) {H H' : Hp} {hp : Heap} {a : Addr} (x : ObjOk P w H hp a o) : ObjOk P w H' hp a o := by
  rcases fl o h with ⟨xs, rfl⟩ | ⟨kvs, rfl⟩
  · exact x
  · exact x
theorem some_ok {P : Program} {w : World} {S : HO → Prop} (fl : Flat S) {o : HO} (h : S o) {H H' : Hp} {hp : Heap} {a : Addr} (x : ObjOk P w H hp a o) : ObjOk P w H' hp a (some_ P w S a) := by
  have lt := x.lt
  refine ⟨⟨o, h, flat_any fl h x⟩, ?_, fun h1 h2 hh k => ?_⟩
  · rcases fl o h with ⟨xs, rfl⟩ | ⟨kvs, rfl⟩
    · obtain ⟨_, its, n, _, e⟩ := x
      exact ⟨_, e⟩
    · obtain ⟨_, _, vs, _, ob, es, ep, e, _⟩ := x
      exact ⟨_, e⟩
  · obtain ⟨o', s', y⟩ := hh
    refine ⟨o', s', y.stay (fun b u hb e => ?_) (fun _ z => z) fun _ _ z => z⟩
    rcases hb with rfl | z
    · exact k u e
    · exact nomatch (show (none : Option HO) = _ from z)
section
variable {P : Program} {w : World} {fs ex : List Addr} {S : HO → Prop} {H H' : Hp} {h h' : Heap} {a : Addr} {o o' : HO}
/-- the heap with something known at a, and back -/
theorem hok_swap (ok : HOk P w H h) (ha : H a = some o) (h1 : ∀ c, o ≠ .own c) (h2 : ∀ xs, o ≠ .tup xs) (n : ObjOk P w (upd H a o') h a o') : HOk P w (upd H a o') h := fun b u e => by
  by_cases hb : b = a
  · subst hb
    rw [upd_same] at e
    cases e
    exact n
  · rw [upd_ne hb] at e
    refine (ok b u e).stay (fun _ _ _ q => q) (fun c q => ?_) fun c xs q => ?_
    · rw [upd_ne fun z => by rw [z, ha] at q; exact h1 _ (Option.some.inj q)]
      exact q
    · rw [upd_ne fun z => by rw [z, ha] at q; exact h2 _ (Option.some.inj q)]
      exact q
theorem un_left (u : Un fs ex (upd H a o) H' h h') (ha : H a = some o') (h1 : ∀ xs, o' ≠ .tup xs) (h2 : ∀ z y, o' ≠ .frz z y) (h3 : ∀ z, o' ≠ .tbl z) : Un fs ex H H' h h' := by
  have ne : ∀ b, H b = none → b ≠ a := fun b e z => by
    rw [z, ha] at e
    cases e
  refine ⟨fun b x q n => u.keep b x q (by rw [upd_ne (ne b n)]; exact n), fun b x q n => u.slot b x q (by rw [upd_ne (ne b n)]; exact n), fun b x q n => u.free b x q (by rw [upd_ne (ne b n)]; exact n), u.there, fun b xs q => u.tups b xs ?_, fun b z y q => u.frzs b z y ?_, fun b z q => u.tbls b z ?_⟩
  · rw [upd_ne fun z => by rw [z, ha] at q; exact h1 _ (Option.some.inj q)]
    exact q
  · rw [upd_ne fun z => by rw [z, ha] at q; exact h2 _ _ (Option.some.inj q)]
    exact q
  · rw [upd_ne fun z => by rw [z, ha] at q; exact h3 _ (Option.some.inj q)]
    exact q
theorem un_right (u : Un fs ex H H' h h') (ha : H' a = some o') (h1 : ∀ xs, o' ≠ .tup xs) (h2 : ∀ z y, o' ≠ .frz z y) (h3 : ∀ z, o' ≠ .tbl z) : Un fs ex H (upd H' a o) h h' := by
  refine ⟨u.keep, u.slot, fun b x q n hx => ?_, u.there, fun b xs q => ?_, fun b z y q => ?_, fun b z q => ?_⟩
  · have e := u.free b x q n hx
    rw [upd_ne fun z => by rw [z, ha] at e; cases e]
    exact e
  · have e := u.tups b xs q
    rw [upd_ne fun z => by rw [z, ha] at e; exact h1 _ (Option.some.inj e)]
    exact e
  · have e := u.frzs b z y q
    rw [upd_ne fun z => by rw [z, ha] at e; exact h2 _ _ (Option.some.inj e)]
    exact e
  · obtain ⟨m, e⟩ := u.tbls b z q
    exact ⟨m, by rw [upd_ne fun z => by rw [z, ha] at e; exact h3 _ (Option.some.inj e)]; exact e⟩
end
/-- a promise over what is known at a, as one over something of the kind S there, of the kind S' behind it -/
def spO (P : Program) (w : World) (n : Nat) (sp : Sp) : Sp := fun vs H Q E => vs.length = n ∧ ∃ (a : Addr) (S S' : HO → Prop), Flat S ∧ Flat S' ∧ H a = some (some_ P w S a) ∧
  ∀ o, S o → sp vs (upd H a o) (fun v H' => ∃ o', S' o' ∧ H' a = some o' ∧ Q v (upd H' a (some_ P w S' a))) E
theorem fn_open {P : Program} {w : World} {K : PySem.W.Frag} {mg : Str → Option Value} {base : Heap} {k : Nat} {f : Addr} {fd : FuncData} {ps : List Str} {sp : Sp} (F : FnOk P w K mg base CX0 k f fd ps sp) : FnOk P w K mg base CX0 k f fd ps (spO P w ps.length sp) := by
  refine ⟨fun vs H Q E h => h.1, fun A outer s H args us vs Q E hr e0 bt r hs => ?_⟩
  obtain ⟨_, a, S, S', fl, fl', ha, hp⟩ := hs
  obtain ⟨⟨o, so, ox⟩, _, _⟩ := e0.hok a _ ha
  have ne : ∀ b, H b = none → b ≠ a := fun b e z => by
    rw [z, ha] at e
    cases e
  have keep : ∀ b, H b = none → upd H a o b = none := fun b e => by
    rw [upd_ne (ne b e)]
    exact e
  have e1 : Env0 P w K mg base A outer s (upd H a o) := ⟨e0.frames, e0.mod, fun b ob e => ⟨(e0.bs b ob e).1, keep b (e0.bs b ob e).2⟩, e0.bsz, e0.funs, fun b hb => keep b (e0.frf b hb),
    hok_swap e0.hok ha (by intro c z; cases z) (by intro c z; cases z) (flat_any fl so ox), e0.bare⟩
  refine codeAny_mono (F.run A outer s (upd H a o) args us vs _ E hr e1 bt r (hp o so)) fun res s' q => ?_
  match res, q with
  | .error e, q => exact q
  | .ok (.ret u), q =>
    obtain ⟨v, H', os, ba, un, hok, rv, o', so', ha', q'⟩ := q
    have n1 : (∀ xs, o' ≠ .tup xs) ∧ (∀ z y, o' ≠ .frz z y) ∧ (∀ z, o' ≠ .tbl z) ∧ (∀ c, o' ≠ .own c) := by
      rcases fl' o' so' with ⟨xs, rfl⟩ | ⟨xs, rfl⟩
      all_goals exact ⟨(fun _ z => by cases z), (fun _ _ z => by cases z), (fun _ z => by cases z), (fun _ z => by cases z)⟩
    refine ⟨v, _, os, ba, ?_, hok_swap hok ha' n1.2.2.2 n1.1 (some_ok fl' so' (hok a _ ha')), rv, q'⟩
    exact un_right (un_left un ha (fun _ z => by cases z) (fun _ _ z => by cases z) (fun _ z => by cases z)) ha' n1.1 n1.2.1 n1.2.2.1
/-- what a def has made may be known as something of a kind from then on -/
theorem fn_close {P : Program} {w : World} {K : PySem.W.Frag} {mg : Str → Option Value} {base : Heap} {k : Nat} {f : Addr} {fd : FuncData} {ps : List Str} {sp sp' : Sp} (F : FnOk P w K mg base CX0 k f fd ps sp)
    (h : ∀ vs H Q E, sp' vs H Q E → sp vs H (fun v H' => ∃ (a : Addr) (S : HO → Prop) (o : HO), Flat S ∧ S o ∧ H' a = some o ∧ Q v (upd H' a (some_ P w S a))) E) : FnOk P w K mg base CX0 k f fd ps sp' := by
  refine ⟨fun vs H Q E q => F.len _ _ _ _ (h vs H Q E q), fun A outer s H args us vs Q E hr e0 bt r hs => ?_⟩
  refine codeAny_mono (F.run A outer s H args us vs _ E hr e0 bt r (h vs H Q E hs)) fun res s' q => ?_
  match res, q with
  | .error e, q => exact q
  | .ok (.ret u), q =>
    obtain ⟨v, H', os, ba, un, hok, rv, a, S, o', fl, so', ha', q'⟩ := q
    have n1 : (∀ xs, o' ≠ .tup xs) ∧ (∀ z y, o' ≠ .frz z y) ∧ (∀ z, o' ≠ .tbl z) ∧ (∀ c, o' ≠ .own c) := by
      rcases fl o' so' with ⟨xs, rfl⟩ | ⟨xs, rfl⟩
      all_goals exact ⟨(fun _ z => by cases z), (fun _ _ z => by cases z), (fun _ z => by cases z), (fun _ z => by cases z)⟩
    exact ⟨v, _, os, ba, un_right un ha' n1.1 n1.2.1 n1.2.2.1, hok_swap hok ha' n1.2.2.2 n1.1 (some_ok fl so' (hok a _ ha')), rv, q'⟩
end HL

namespace HL
open PySem PySem.Spec PyProof.Rows L2
/-! ### a global def by its name and promise -/
def Has (P : Program) (w : World) (K : PySem.W.Frag) (mg : Str → Option Value) (base : Heap) (x : Str) (k : Nat) (ps : List Str) (sp : Sp) : Prop :=
  ∃ f fd, mg x = some (.ref f) ∧ PySem.W.keepIn K (.ref f) = true ∧ FnOk P w K mg base CX0 k f fd ps sp ∧ Binds K fd ps []
def HasG (P : Program) (w : World) (K : PySem.W.Frag) (mg : Str → Option Value) (base : Heap) (x : Str) (k : Nat) (ps : List Str) (sp : Sp) : Prop :=
  ∃ f fd, mg x = some (.ref f) ∧ PySem.W.keepIn K (.ref f) = true ∧ FnG P w K mg base CX0 k f fd ps sp ∧ Binds K fd ps []
section
variable {P : Program} {w : World} {K : PySem.W.Frag} {mg : Str → Option Value} {base : Heap} {x : Str} {k : Nat} {ps : List Str} {sp : Sp}
theorem Has.g (h : Has P w K mg base x k ps sp) : HasG P w K mg base x k ps sp := by
  obtain ⟨f, fd, h1, h2, h3, h4⟩ := h
  exact ⟨f, fd, h1, h2, FnG.of h3, h4⟩
theorem Has.imp {sp' : Sp} (h : Has P w K mg base x k ps sp) (i : ∀ vs H Q E, sp' vs H Q E → sp vs H Q E) : Has P w K mg base x k ps sp' := by
  obtain ⟨f, fd, h1, h2, h3, h4⟩ := h
  exact ⟨f, fd, h1, h2, h3.imp i, h4⟩
theorem Has.open (h : Has P w K mg base x k ps sp) : Has P w K mg base x k ps (spO P w ps.length sp) := by
  obtain ⟨f, fd, h1, h2, h3, h4⟩ := h
  exact ⟨f, fd, h1, h2, fn_open h3, h4⟩
theorem Has.close {sp' : Sp} (h : Has P w K mg base x k ps sp) (i : ∀ vs H Q E, sp' vs H Q E → sp vs H (fun v H' => ∃ (a : Addr) (S : HO → Prop) (o : HO), Flat S ∧ S o ∧ H' a = some o ∧ Q v (upd H' a (some_ P w S a))) E) :
    Has P w K mg base x k ps sp' := by
  obtain ⟨f, fd, h1, h2, h3, h4⟩ := h
  exact ⟨f, fd, h1, h2, fn_close h3 i, h4⟩
theorem has_of {f : Addr} {st : Stmt} {N : List Str} (g : mg x = some (.ref f)) (F : ∃ fd, FunD K x x (defArgs st) (defBody st) (defScope st) [] [] f fd) (S : FnScope N ps (defScope st))
    (hb : ∀ (kV doc pm : Value) (an : Option Addr) (cdv ct : Value) (us : List Value), us.length = ps.length → bindArgs (PySem.W.fnOf x x (defArgs st) (defBody st) (defScope st) .none kV doc pm an cdv ct) ⟨us, []⟩ = pure (ps.zip us))
    (len : ∀ vs H Q E, sp vs H Q E → vs.length = ps.length)
    (body : ∀ (cdv : Value) (A : Around) (outer : List Env) (s : Shared) (H : Hp) (vs : List V) (Q : VK) (E : XK), Room k (A.deeper (envOfC x (defScope st) s.heap.objs.size f cdv)) → sp vs H Q E →
      ∃ t, PSs (cxOf CX0 P w K mg base N x (defScope st) f cdv A outer s H E).nox (defBody st) t ∧ t { nx := fun _ H' => Q .non H', rt := Q } (start N vs) H) :
    Has P w K mg base x (k + 1) ps sp := by
  obtain ⟨fd, F⟩ := F
  refine ⟨f, fd, g, F.kp, F.ok S len fun cdv A outer s H vs Q E hr h => ?_, F.bindsN hb⟩
  obtain ⟨t, h1, h2⟩ := body cdv A outer s H vs Q E hr h
  exact ⟨t, h1.nox, h2⟩
theorem hasg_of {f : Addr} {st : Stmt} {N : List Str} (g : mg x = some (.ref f)) (F : ∃ fd, FunD K x x (defArgs st) (defBody st) (defScope st) [] [] f fd) (S : FnScope N ps (defScope st))
    (hb : ∀ (kV doc pm : Value) (an : Option Addr) (cdv ct : Value) (us : List Value), us.length = ps.length → bindArgs (PySem.W.fnOf x x (defArgs st) (defBody st) (defScope st) .none kV doc pm an cdv ct) ⟨us, []⟩ = pure (ps.zip us))
    (len : ∀ vs H Q E, sp vs H Q E → vs.length = ps.length)
    (body : ∀ (cdv : Value) (A : Around) (outer : List Env) (s : Shared) (H : Hp) (vs : List V) (Q : VK) (E : XK), A.guards = some [] → Room k (A.deeper (envOfC x (defScope st) s.heap.objs.size f cdv)) → sp vs H Q E →
      ∃ t, PSs (cxOf CX0 P w K mg base N x (defScope st) f cdv A outer s H E).nox (defBody st) t ∧ t { nx := fun _ H' => Q .non H', rt := Q } (start N vs) H) :
    HasG P w K mg base x (k + 1) ps sp := by
  obtain ⟨fd, F⟩ := F
  exact ⟨f, fd, g, F.kp, okG F S len body, F.bindsN hb⟩
end
section
variable {X : Cx} {k j : Nat} {ps : List Str} {sp : Sp} {x : Str} {p pos : Pos} {e : Expr} {es : List Expr} {t : TA}
theorem pe_has (h : Has X.prog X.w X.K X.mg X.base x k ps sp) (hr : Room k X.A) (hg : Gl X x) (ha : PA X (e :: es) t) (hdb : (x == ("__debug__" : Str)) = false := by decide)
    (he : starEach (e :: es) X.env = (false, eval e X.env) :: starEach es X.env := by rfl) (hpl : (backTo pos (starEach es X.env)).any (·.1) = false := by rfl) :
    PE X (.Call (.Name x p) (e :: es) [] pos) (tCall sp [] E0 t) := by
  obtain ⟨f, fd, h1, h2, h3, h4⟩ := h
  exact pe_call h3 hr hg h1 h2 h4 .nil pass0 ha hdb he hpl
theorem pe_has0 (h : Has X.prog X.w X.K X.mg X.base x k ps sp) (hr : Room k X.A) (hg : Gl X x) (hdb : (x == ("__debug__" : Str)) = false := by decide) : PE X (.Call (.Name x p) [] [] pos) (tCall sp [] E0 tNil) := by
  obtain ⟨f, fd, h1, h2, h3, h4⟩ := h
  exact pe_call0 h3 hr hg h1 h2 h4 .nil pass0 hdb
theorem pe_hasg (gd : X.A.guards = some []) (h : HasG X.prog X.w X.K X.mg X.base x k ps sp) (hr : Room k X.A) (hg : Gl X x) (ha : PA X (e :: es) t) (hdb : (x == ("__debug__" : Str)) = false := by decide)
    (he : starEach (e :: es) X.env = (false, eval e X.env) :: starEach es X.env := by rfl) (hpl : (backTo pos (starEach es X.env)).any (·.1) = false := by rfl) :
    PE X (.Call (.Name x p) (e :: es) [] pos) (tCall sp [] E0 t) := by
  obtain ⟨f, fd, h1, h2, h3, h4⟩ := h
  exact pe_callg h3 gd hr hg h1 h2 h4 .nil pass0 ha hdb he hpl
/-- a module's int or text -/
theorem pe_gk {v : V} (hg : Gl X x) (h : ∃ u, X.mg x = some u ∧ RelV v u) (hd : (x == ("__debug__" : Str)) = false := by decide) : PE X (.Name x pos) (tC v) := by
  obtain ⟨u, h1, h2⟩ := h
  exact pe_glob hg h1 h2 hd
end
theorem boot_repr : bootBuiltins "repr" = some (.builtin "repr") := by decide +kernel
theorem boot_all : bootBuiltins "all" = some (.builtin "all") := by decide +kernel
theorem boot_any : bootBuiltins "any" = some (.builtin "any") := by decide +kernel
theorem boot_isinstance : bootBuiltins "isinstance" = some (.builtin "isinstance") := by decide +kernel
theorem boot_abs : bootBuiltins "abs" = some (.builtin "abs") := by decide +kernel
theorem boot_min : bootBuiltins "min" = some (.builtin "min") := by decide +kernel
theorem boot_max : bootBuiltins "max" = some (.builtin "max") := by decide +kernel
theorem boot_sorted : bootBuiltins "sorted" = some (.builtin "sorted") := by decide +kernel
theorem boot_len : bootBuiltins "len" = some (.builtin "len") := by decide +kernel
theorem boot_int : bootBuiltins "int" = some (.type "int") := by decide +kernel
theorem boot_list : bootBuiltins "list" = some (.type "list") := by decide +kernel
theorem boot_tuple : bootBuiltins "tuple" = some (.type "tuple") := by decide +kernel
theorem boot_dict : bootBuiltins "dict" = some (.type "dict") := by decide +kernel
theorem boot_str : bootBuiltins "str" = some (.type "str") := by decide +kernel
theorem boot_bool : bootBuiltins "bool" = some (.type "bool") := by decide +kernel
theorem boot_set : bootBuiltins "set" = some (.type "set") := by decide +kernel
/-! ### all that was known is known -/
theorem same_upd {H H' : Hp} {p : Addr} {o : HO} (e : Same H H') (h : H p = none) : Same H (upd H' p o) := fun b u q => by
  rw [upd_ne (ne_of_none q h)]
  exact e b u q
theorem same_new {H : Hp} {p : Addr} {o : HO} (h : H p = none) : Same H (upd H p o) := same_upd (Same.refl H) h
end HL

namespace HL
open PySem PySem.Spec PyProof.Rows L2
/-! ### a list against the empty list -/
def rNil (K : PySem.W.Frag) (neg : Bool) : R2 := fun x y H Q => ∃ p q xs, x = .ref p ∧ y = .ref q ∧ SqL K H p xs ∧ SqL K H q [] ∧ Q (.bl (if neg then !xs.isEmpty else xs.isEmpty)) H
section
variable {X : Cx}
theorem op_eqNil (hu : X.A.units + 64 < cLine) : OpR X (compareOp .Eq) (rNil X.K false) := by
  intro pins s σ H x y v u Q I rx ry h
  obtain ⟨p, q, xs, rfl, rfl, h1, h2, k⟩ := h
  cases rx
  cases ry
  obtain ⟨a, ra, ⟨oa, na, ea, ca, _, da⟩, _⟩ := I.list h1
  obtain ⟨b, rb, ⟨ob, nb, eb, cb, _, db⟩, _⟩ := I.list h2
  cases rb
  have la : s.heap.IsList p a.toArray := ⟨oa, ea, ca, na, da⟩
  have lb : s.heap.IsList q (#[] : Array Value) := ⟨ob, eb, cb, nb, db⟩
  cases ra with
  | nil => exact SeqAt.eq_listAt (e := fun _ => true) la lb rfl (by omega) (fun j h1 h2 => absurd h1 (by simp)) ⟨.bl true, H, I, rfl, k⟩
  | cons r0 rn => exact SeqAt.eq_list_lengthsAt la lb (by simp) (by omega) ⟨.bl false, H, I, rfl, k⟩
theorem op_neNil (hu : X.A.units + 64 < cLine) : OpR X (compareOp .NotEq) (rNil X.K true) := by
  intro pins s σ H x y v u Q I rx ry h
  obtain ⟨p, q, xs, rfl, rfl, h1, h2, k⟩ := h
  cases rx
  cases ry
  obtain ⟨a, ra, ⟨oa, na, ea, ca, _, da⟩, _⟩ := I.list h1
  obtain ⟨b, rb, ⟨ob, nb, eb, cb, _, db⟩, _⟩ := I.list h2
  cases rb
  have la : s.heap.IsList p a.toArray := ⟨oa, ea, ca, na, da⟩
  have lb : s.heap.IsList q (#[] : Array Value) := ⟨ob, eb, cb, nb, db⟩
  cases ra with
  | nil => exact SeqAt.RcNeAt.lists (e := fun _ => true) la lb rfl (by omega) (fun j h1 h2 => absurd h1 (by simp)) _ _ _ _ ⟨.bl false, H, I, rfl, k⟩
  | cons r0 rn => exact SeqAt.RcNeAt.lists_lengths la lb (by simp) (by omega) _ _ _ _ ⟨.bl true, H, I, rfl, k⟩
end
theorem sIx_nat {i n : Nat} (h : i < n) : seqIndex? (i : Int) n = some i := by
  unfold seqIndex?
  simp only [show ¬ ((i : Int) < 0) by omega, if_false]
  rw [if_pos (by simp; omega)]
  simp
theorem yes_ {σ : L2.St} {H : Hp} {A B : Hp → Prop} (h : A H) : tYes σ H (fun b H3 => if b = true then A H3 else B H3) := by
  show if true = true then A H else B H
  rw [if_pos rfl]
  exact h
/-! ### data stays data -/
theorem same_t {K : PySem.W.Frag} {H H' : Hp} {a : Addr} {xs : List V} (e : Same H H') (h : SqT K H a xs) : SqT K H' a xs := by
  rcases h with (h | ⟨o, h⟩) | h
  · exact .inl (.inl (e _ _ h))
  · exact .inl (.inr ⟨o, e _ _ h⟩)
  · exact .inr h
/-- all but what is left open stays -/
def Kp (H H' : Hp) : Prop := ∀ b o, (∀ φ, o ≠ HO.ext φ) → H b = some o → H' b = some o
theorem Kp.of {H H' : Hp} (e : Same H H') : Kp H H' := fun b o _ h => e b o h
theorem Kp.refl (H : Hp) : Kp H H := fun _ _ _ h => h
theorem Kp.trans {H H1 H2 : Hp} (a : Kp H H1) (b : Kp H1 H2) : Kp H H2 := fun c o n e => b c o n (a c o n e)
theorem Kp.lst {H H' : Hp} {a : Addr} {xs : List V} (e : Kp H H') (h : H a = some (.lst xs)) : H' a = some (.lst xs) := e _ _ (fun _ z => by cases z) h
theorem Kp.tup {H H' : Hp} {a : Addr} {xs : List V} (e : Kp H H') (h : H a = some (.tup xs)) : H' a = some (.tup xs) := e _ _ (fun _ z => by cases z) h
theorem Kp.dK {H H' : Hp} {a : Addr} {xs : List (Key × V)} (e : Kp H H') (h : H a = some (.dK xs)) : H' a = some (.dK xs) := e _ _ (fun _ z => by cases z) h
theorem Kp.ins {H H' : Hp} {a C dx : Addr} {fs : List (Str × V)} (e : Kp H H') (h : H a = some (.ins C dx fs)) : H' a = some (.ins C dx fs) := e _ _ (fun _ z => by cases z) h
theorem Kp.frz {H H' : Hp} {a : Addr} {o : Obj} {u : HO} (e : Kp H H') (h : H a = some (.frz o u)) : H' a = some (.frz o u) := e _ _ (fun _ z => by cases z) h
theorem Kp.l {K : PySem.W.Frag} {H H' : Hp} {a : Addr} {xs : List V} (e : Kp H H') (h : SqL K H a xs) : SqL K H' a xs := by
  rcases h with (h | ⟨o, h⟩) | h
  · exact .inl (.inl (e.lst h))
  · exact .inl (.inr ⟨o, e.frz h⟩)
  · exact .inr h
theorem Kp.t {K : PySem.W.Frag} {H H' : Hp} {a : Addr} {xs : List V} (e : Kp H H') (h : SqT K H a xs) : SqT K H' a xs := by
  rcases h with (h | ⟨o, h⟩) | h
  · exact .inl (.inl (e.tup h))
  · exact .inl (.inr ⟨o, e.frz h⟩)
  · exact .inr h
mutual
theorem Kp.dp {K : PySem.W.Frag} {H H' : Hp} (e : Kp H H') : ∀ {v : V} {d : PyData}, Dp K H v d → Dp K H' v d
  | _, _, .non => .non
  | _, _, .bl b => .bl b
  | _, _, .int i => .int i
  | _, _, .str x => .str x
  | _, _, .lst h a => .lst (e.l h) (Kp.dpa e a)
  | _, _, .tup h a => .tup (e.t h) (Kp.dpa e a)
theorem Kp.dpa {K : PySem.W.Frag} {H H' : Hp} (e : Kp H H') : ∀ {vs : List V} {ds : List PyData}, DpAll K H vs ds → DpAll K H' vs ds
  | _, _, .nil => .nil
  | _, _, .cons h t => .cons (Kp.dp e h) (Kp.dpa e t)
end
theorem dpa_strs {K : PySem.W.Frag} {H : Hp} : ∀ l : List Str, DpAll K H (l.map V.str) (l.map PyData.str)
  | [] => .nil
  | x :: r => .cons (.str x) (dpa_strs r)
theorem dpa_ints {K : PySem.W.Frag} {H : Hp} : ∀ l : List Int, DpAll K H (l.map V.int) (l.map PyData.int)
  | [] => .nil
  | x :: r => .cons (.int x) (dpa_ints r)
end HL

namespace HL
open PySem PySem.Spec PyProof.Rows L2
section
variable {prog : Program} {w : World} {A : Around} {E : Value → Shared → Prop} {s : Shared} {K : PySem.W.Frag} {x C f : Addr} {ox : Obj} {od : Option Obj} {b tb : Value}
open PySem.W in
theorem ifBound_B {M : Model} {args : List Value} {name : Str} {id : String} {Q : Option Value → Shared → Prop} (X : K.In s.heap) (I : InstAt s.heap x ox C od) (hs : findIn K (.ref C) name = some (some (.builtin id)))
    (hb : ∀ self, bindSpecial (.builtin id) self = pure (.builtin id, [self])) (h : wpAny M A (call (.builtin id) (.ref x :: args)) (fun v => Q (some v)) E s) : wpAny M A (callSpecialIfBound? (.ref x) name args) Q E s := by
  have last : wpAny M A (do return some (← call (.builtin id) ([.ref x] ++ args))) Q E s := wpAny_bind (wpAny_mono h (fun v s' q => wpAny_pure q) fun _ _ q => q)
  unfold callSpecialIfBound? bindSpecialIfBound?
  refine wpAny_holding (wpAny_bind (wpAny_bind (wpAny_bind (I.type.here ((looks_findIn X hs).here (wpAny_bind (wpAny_askSetting (wpAny_ite ?_))))))))
  simp only [hb]
  split
  · exact wpAny_bind (wpAny_pure (wpAny_pure (by exact last)))
  · exact wpAny_tryCatch (wpAny_bind (wpAny_pure (wpAny_pure (by exact last))))
open PySem.W in
theorem objNe_K (X : K.In s.heap) (I : InstAt s.heap x ox C od) (hs : findIn K (.ref C) "__eq__" = some (some (.ref f))) (hf : isFn K (.ref f) = true) (hu : A.units < cLine) {Q : Fin → Shared → Prop}
    (h : wpAny (model prog w) A (call (.ref f) [.ref x, b]) (fun v s' => ∃ c, v = .bool c ∧ Q (.done (.ret (.bool (!c)))) s') E s) : wpAny (model prog w) A (Builtin.«object.__ne__» ⟨[.ref x, b], []⟩) Q E s := by
  unfold Builtin.«object.__ne__»
  refine wpAny_bind (wpAny_of_eq (a := ((Value.ref x : Value), [b])) (by first | rfl | (simp only [slotArgs]; rfl)) ?_)
  refine wpAny_bind (wpAny_cRoomFor hu (wpAny_bind (ifBound_K X I hs hf (wpAny_mono h (fun v s' q => ?_) fun _ _ q => q))))
  obtain ⟨c, rfl, q⟩ := q
  refine wpAny_bind (wpAny_truthy_bool ?_)
  first | exact wpAny_pure q | exact wpAny_pure (wpAny_pure q) | exact q
open PySem.W in
theorem rcNe_K (hu : A.units + 1 < cLine) (X : K.In s.heap) (I : InstAt s.heap x ox C od) (hb : Looks (model prog w) s.heap (typeOf b) tb) (hn : notFirst K C tb = true) (h1 : findIn K (.ref C) "__ne__" = some (some (.builtin "object.__ne__")))
    (hs : findIn K (.ref C) "__eq__" = some (some (.ref f))) (hf : isFn K (.ref f) = true) (ho : subIn K (.ref C) (.type "object") = some true) {Q : Value → Shared → Prop}
    (h : wpAny (model prog w) A.in1 (call (.ref f) [.ref x, b]) (fun v s' => ∃ c, v = .bool c ∧ Q (.bool (!c)) s') E s) : wpAny (model prog w) A (richCompare .NotEq (.ref x) b) Q E s := by
  have isO : Looks (model prog w) s.heap (isInstance (.ref x) (.type "object")) true := I.type.andThen (looks_subIn X ho)
  have one : wpAny (model prog w) A (tryCompare (.ref x) (cmpInfo .NotEq).2.1 b) (fun r s' => ∃ v, r = some v ∧ Q v s') E s := by
    unfold tryCompare
    refine wpAny_bind (ifBound_B X I h1 PySem.F.cmp_object.ne.bind (wpAny_call (codeAny_call_builtin PySem.F.cmp_object.ne.plain PySem.F.cmpEntry_ne ?_)))
    refine check_slot PySem.F.cmpKind_ne PySem.F.cmpSplit_ne isO (PySem.F.cmpArgs_ne _ _) ?_
    refine objNe_K (A := A.in1) X I hs hf hu (wpAny_mono h (fun v s' q => ?_) fun _ _ q => q)
    obtain ⟨c, rfl, q⟩ := q
    exact ⟨c, rfl, wpAny_pure ⟨_, rfl, q⟩⟩
  have fin : ∀ (r : Option Value) (s' : Shared), (∃ v, r = some v ∧ Q v s') → True := fun _ _ _ => trivial
  unfold richCompare
  simp only [oneThing_ref]
  refine wpAny_holding (wpAny_bind (wpAny_cRoomFor (Nat.lt_of_succ_lt hu) (wpAny_bind (I.type.here (wpAny_bind (hb.here ?_))))))
  split
  · rename_i q
    have e : subIn K tb (.ref C) = some false := by
      rcases Bool.or_eq_true_iff.mp hn with e | e
      · rw [beq_iff_eq.mp e] at q
        simp at q
      · exact beq_iff_eq.mp e
    refine wpAny_bind ((looks_subIn X e).here ?_)
    simp only [Bool.false_eq_true, if_false]
    refine wpAny_bind (wpAny_mono one (fun r s' z => ?_) fun _ _ e => e)
    obtain ⟨v, rfl, hq⟩ := z
    exact wpAny_pure hq
  · refine wpAny_bind (wpAny_pure ?_)
    simp only [Bool.false_eq_true, if_false]
    refine wpAny_bind (wpAny_mono one (fun r s' z => ?_) fun _ _ e => e)
    obtain ⟨v, rfl, hq⟩ := z
    exact wpAny_pure hq
end
/-- an instance of C against any value, by the text's own __eq__ -/
def rOwn (K : PySem.W.Frag) (C : Addr) (sp : Sp) (neg : Bool) : R2 := fun x y H Q => ∃ (a dx : Addr) (fs : List (Str × V)) (t : Value), x = .ref a ∧ H a = some (.ins C dx fs) ∧ TyX K H y t ∧ PySem.W.notFirst K C t = true ∧
  sp [.ref a, y] H (fun v H' => ∃ b : Bool, v = .bl b ∧ Q (.bl (if neg then !b else b)) H') E0
section
variable {X : Cx} {n : Nat} {C f : Addr} {fd : FuncData} {ps : List Str} {sp : Sp}
theorem op_eqO (F : FnOk X.prog X.w X.K X.mg X.base CX0 n f fd ps sp) (hs : PySem.W.findIn X.K (.ref C) "__eq__" = some (some (.ref f))) (hf : PySem.W.isFn X.K (.ref f) = true) (hb : Binds X.K fd ps []) (hr : Room n X.A) :
    OpR X (compareOp .Eq) (rOwn X.K C sp false) := by
  intro pins s σ H x y v u Q I rx ry h
  obtain ⟨a, dx, fs, t, rfl, ha, ty, hn, hsp⟩ := h
  cases rx
  obtain ⟨Pk, kit, pk, _⟩ := kit_of I ry ty
  obtain ⟨mA, J, _⟩ := ins_get I.hok ha
  obtain ⟨od, J, _⟩ := J.look
  obtain ⟨m, hF⟩ := I.fr
  unfold compareOp
  refine PySem.W.cmp_K (op := .Eq) (tb := t) hr.units0 hF I.ok.mod.kin J (kit.ty _ _ I.kIn pk) hn hs hf ?_
  have hl := F.len _ _ _ _ hsp
  refine wpAny_call (codeAny_mono (F.run X.A X.stack s H ⟨[.ref a, u], []⟩ [.ref a, u] [.ref a, y] _ E0 hr I.env0 (by simpa using hb s [.ref a, u] I.kIn (by simpa using hl)) (.cons rfl (.cons ry .nil)) hsp) fun r s' hq => ?_)
  match r, hq with
  | .ok (.ret w), hq =>
    obtain ⟨z, H', I', rz, b, rfl, q⟩ := I.after hq
    cases rz
    exact ⟨.bl b, H', I', rfl, q⟩
theorem op_neO (F : FnOk X.prog X.w X.K X.mg X.base CX0 n f fd ps sp) (h1 : PySem.W.findIn X.K (.ref C) "__ne__" = some (some (.builtin "object.__ne__"))) (ho : PySem.W.subIn X.K (.ref C) (.type "object") = some true)
    (hs : PySem.W.findIn X.K (.ref C) "__eq__" = some (some (.ref f))) (hf : PySem.W.isFn X.K (.ref f) = true) (hb : Binds X.K fd ps []) (hr : Room (n + 1) X.A) : OpR X (compareOp .NotEq) (rOwn X.K C sp true) := by
  intro pins s σ H x y v u Q I rx ry h
  obtain ⟨a, dx, fs, t, rfl, ha, ty, hn, hsp⟩ := h
  cases rx
  obtain ⟨Pk, kit, pk, _⟩ := kit_of I ry ty
  obtain ⟨mA, J, _⟩ := ins_get I.hok ha
  obtain ⟨od, J, _⟩ := J.look
  unfold compareOp
  refine rcNe_K (tb := t) (hu_of hr) I.kIn J (kit.ty _ _ I.kIn pk) hn h1 hs hf ho ?_
  have hl := F.len _ _ _ _ hsp
  refine wpAny_call (codeAny_mono (F.run X.A.in1 X.stack s H ⟨[.ref a, u], []⟩ [.ref a, u] [.ref a, y] _ E0 hr.in1 I.env0.in1 (by simpa using hb s [.ref a, u] I.kIn (by simpa using hl)) (.cons rfl (.cons ry .nil)) hsp) fun r s' hq => ?_)
  match r, hq with
  | .ok (.ret w), hq =>
    obtain ⟨z, H', I', rz, b, rfl, q⟩ := I.after hq
    cases rz
    exact ⟨b, rfl, .bl (!b), H', I', rfl, q⟩
end
end HL

namespace HL
open PySem PySem.Spec PyProof.Rows L2
/-! ### set(xs) of ints and texts: the different ones, in the order in which they are met -/
section
variable {κ : Type} [DecidableEq κ]
def meet1 (acc : List κ) (k : κ) : List κ := if k ∈ acc then acc else acc ++ [k]
def met (ks : List κ) : List κ := ks.foldl meet1 []
theorem met_snoc (ks : List κ) (k : κ) : met (ks ++ [k]) = meet1 (met ks) k := by
  unfold met
  rw [List.foldl_append]
  rfl
theorem meet1_len (acc : List κ) (k : κ) : (meet1 acc k).length = if k ∈ acc then acc.length else acc.length + 1 := by
  unfold meet1
  split
  · rfl
  · rw [List.length_append, List.length_singleton]
theorem mem_meet1 {acc : List κ} {k j : κ} : j ∈ meet1 acc k ↔ j ∈ acc ∨ j = k := by
  unfold meet1
  split
  · rename_i h
    refine ⟨.inl, fun q => q.elim id fun q => by rw [q]; exact h⟩
  · rw [List.mem_append, List.mem_singleton]
theorem met_go (ks : List κ) : ∀ acc : List κ, acc.length ≤ (ks.foldl meet1 acc).length ∧ (ks.foldl meet1 acc).length ≤ acc.length + ks.length := by
  induction ks with
  | nil => intro acc; exact ⟨Nat.le_refl _, Nat.le_refl _⟩
  | cons k r ih =>
    intro acc
    have h1 := meet1_len acc k
    have h2 := ih (meet1 acc k)
    rw [List.foldl_cons, List.length_cons]
    split at h1 <;> omega
theorem met_len (ks : List κ) : (met ks).length ≤ ks.length := by
  have h := (met_go ks []).2
  rw [List.length_nil, Nat.zero_add] at h
  exact h
/-- as many as there are exactly if none stands there twice -/
theorem met_full (ks : List κ) : ∀ acc : List κ, (ks.foldl meet1 acc).length = acc.length + ks.length ↔ ks.Nodup ∧ ∀ k ∈ ks, k ∉ acc := by
  induction ks with
  | nil => intro acc; simp
  | cons k r ih =>
    intro acc
    rw [List.foldl_cons, List.length_cons, List.nodup_cons]
    by_cases hk : k ∈ acc
    · have e : meet1 acc k = acc := if_pos hk
      rw [e]
      refine ⟨fun q => ?_, fun q => absurd hk (q.2 k List.mem_cons_self)⟩
      have := (met_go r acc).2
      omega
    · have e : meet1 acc k = acc ++ [k] := if_neg hk
      rw [e]
      have h := ih (acc ++ [k])
      rw [List.length_append, List.length_singleton] at h
      have h2 : (r.foldl meet1 (acc ++ [k])).length = acc.length + (r.length + 1) ↔ (r.foldl meet1 (acc ++ [k])).length = acc.length + 1 + r.length := by omega
      rw [h2, h]
      constructor
      · rintro ⟨a, b⟩
        refine ⟨⟨fun m => b k m (by simp), a⟩, fun j hj => ?_⟩
        rcases List.mem_cons.mp hj with rfl | hj
        · exact hk
        · exact fun m => b j hj (List.mem_append_left _ m)
      · rintro ⟨⟨a, b⟩, c⟩
        refine ⟨b, fun j hj m => ?_⟩
        rcases List.mem_append.mp m with m | m
        · exact c j (List.mem_cons_of_mem _ hj) m
        · rw [List.mem_singleton.mp m] at hj
          exact a hj
theorem met_nodup (ks : List κ) : (met ks).length = ks.length ↔ ks.Nodup := by
  have h := met_full ks []
  rw [List.length_nil, Nat.zero_add] at h
  rw [show met ks = ks.foldl meet1 [] from rfl, h]
  simp
end
section
variable {prog : Program} {w : World} {A : Around} {R : Result → Shared → Prop} {it : Addr} {fp wr : List Addr} {G : Array GenState → Array GenState → Prop} {n : Nat} {Pv : Nat → Value → Prop} {St : Nat → Shared → Prop}
  {κ : Type} [DecidableEq κ] {knd : KeyKind prog w κ}
theorem set_moved {S : Addr} {F : κ → Bool} {m : Nat} {s s' : Shared} (h : s.heap.SetOf knd S F m) (k : ∀ o, s.heap.get? S = some o → s'.heap.get? S = some o) : s'.heap.SetOf knd S F m := by
  obtain ⟨o, es, ep, t, ho, r⟩ := h
  exact ⟨o, es, ep, t, k o ho, r⟩
theorem set_grow (W : WalksS prog w A.in1 it fp wr G n Pv St) (S : Addr) (hS : S ∉ fp) (ks : List κ) (hn : ks.length = n) (hb : n + 1 < scanBound)
    (hv : ∀ i v, Pv i v → ∃ k, ks[i]? = some k ∧ knd.is k v = true ∧ v.scannable = true) : ∀ (m i : Nat) (s : Shared), n - i = m → i ≤ n → St i s →
      s.heap.SetOf knd S (fun k => decide (k ∈ met (ks.take i))) (met (ks.take i)).length →
      (∀ s', Moved (S :: wr) G s s' → s'.heap.SetOf knd S (fun k => decide (k ∈ met ks)) (met ks).length → R (.ok (.ret .none)) s') →
      codeAny (model prog w) A (.builtin "set.update.loop" ⟨[.ref S, .ref it], []⟩) R s := by
  have nw : S ∉ wr := fun h => hS (W.sub _ h)
  have up : ∀ b ∈ wr, b ∈ S :: wr := fun b hb => List.mem_cons_of_mem _ hb
  intro m
  induction m with
  | zero =>
    intro i s hm hi st hs hR
    have ei : i = ks.length := by omega
    rw [ei, List.take_length] at hs
    refine codeAny_builtin PyProof.Rows.F.entry_set_update_loop ?_
    rw [Around.under_plainId PyProof.Rows.F.plain_set_update_loop _]
    refine wpAny_bind (W.done s _ _ (by rw [← hn, ← ei]; exact st) fun s' mv => ?_)
    exact wpAny_pure (hR s' (mv.mono up) (set_moved hs fun o e => mv.heap S o nw e))
  | succ m ih =>
    intro i s hm hi st hs hR
    have lt : i < n := by omega
    refine codeAny_builtin PyProof.Rows.F.entry_set_update_loop ?_
    rw [Around.under_plainId PyProof.Rows.F.plain_set_update_loop _]
    refine wpAny_bind (W.item i s _ _ lt st fun v s1 hp st1 mv => ?_)
    obtain ⟨k, hk, his, hsc⟩ := hv i v hp
    have tk : ks.take (i + 1) = ks.take i ++ [k] := by
      rw [List.take_succ, hk]
      rfl
    have hs1 := set_moved hs fun o e => mv.heap S o nw e
    refine wpAny_bind (wpAny_holding ?_)
    unfold setAdd
    refine wpAny_holding (wpAny_bind (knd.pyHash (k := k) his ?_))
    have le : (met (ks.take i)).length + 1 < scanBound := by
      have := met_len (ks.take i)
      rw [List.length_take] at this
      omega
    refine wpAny_setAddHashed_of (knd := knd) (s := { s1 with toks := s1.toks + 1 }) his hsc hs1 le fun h' sb hs2 => ?_
    have hs3 : h'.SetOf knd S (fun j => decide (j ∈ met (ks.take (i + 1)))) (met (ks.take (i + 1))).length := by
      rw [tk, met_snoc]
      have e1 : (fun j => decide (j ∈ meet1 (met (ks.take i)) k)) = fun j => decide (j ∈ met (ks.take i)) || decide (j = k) := by
        funext j
        rw [← Bool.decide_or]
        exact decide_eq_decide.mpr mem_meet1
      have e2 := meet1_len (met (ks.take i)) k
      rw [e1, e2]
      simpa using hs2
    refine wpAny_pure ⟨plainId_quiet PyProof.Rows.F.plain_set_update_loop _, ih (i + 1) _ (by omega) lt (W.frame _ s1 _ _ st1 (Nat.le_succ _) fun b hb o e => ?_) hs3 fun s2 mv2 hs4 => ?_⟩
    · rw [sb.2 b fun z : b = S => hS (by rw [← z]; exact hb)]
      exact e
    · refine hR s2 (Moved.trans W.gtrans ((mv.mono up).then_heap (Nat.le_succ _) fun b o hb e => ?_) mv2) hs4
      rw [sb.2 b fun z : b = S => hb (by rw [z]; exact List.mem_cons_self)]
      exact e
end

section
variable {prog : Program} {w : World} {A : Around} {E : Value → Shared → Prop} {s : Shared} {κ : Type} [DecidableEq κ] {knd : KeyKind prog w κ}
abbrev emptySet (led : Bool) : Obj := { cls := .type "set", dict := none, data := .set #[] 0 (.fresh 0 0 led) }
theorem empty_met {led : Bool} {h : Heap} {S : Addr} (e : h.get? S = some (emptySet led)) : h.SetOf knd S (fun k => decide (k ∈ met ([] : List κ))) (met ([] : List κ)).length :=
  PyProof.Rows.SetOf_congr ((PyProof.Rows.setObjOf_fresh (knd := knd) led).setOf e (by unfold scanBound; omega)) (fun _ => rfl) rfl
theorem call_set_seq {l : Addr} {items : Array Value} {ks : List κ} {Q : Value → Shared → Prop} (hh : A.handled = none) (hl : s.heap.IsList l items ∨ s.heap.IsTuple l items) (hn : ks.length = items.size) (hb : items.size + 1 < scanBound)
    (hv : ∀ (i : Nat) (v : Value), items[i]? = some v → ∃ k, ks[i]? = some k ∧ knd.is k v = true ∧ v.scannable = true)
    (h : ∀ (h' : Heap) (tk : Nat), h'.SetOf knd s.heap.objs.size (fun k => decide (k ∈ met ks)) (met ks).length → (∀ b o, s.heap.get? b = some o → h'.get? b = some o) → Q (.ref s.heap.objs.size) { s with heap := h', toks := tk }) :
    wpAny (model prog w) A (call (.type "set") [.ref l]) Q E s := by
  have lS : l < s.heap.objs.size := by
    rcases hl with ⟨o, e, _⟩ | ⟨o, e, _⟩
    all_goals exact Heap.lt_size e
  have mro := PySem.F.called_set.mro
  obtain ⟨c, tl, hmro⟩ := mro
  have hmade := PySem.F.called_set.made
  have hsub := PySem.F.called_set.sub
  refine wpAny_call (codeAny_of_tree ?_)
  show wpAny _ _ (callAny (.type "set") _) _ _ _
  refine wpAny_pure ⟨Code.quiet_builtin _ (by decide +kernel), codeAny_builtin PySem.F.entry_type_call ?_⟩
  rw [Around.under_plain (weight_type_call_type "set" [.ref l] []) rfl]
  have c1 := PySem.F.called_set.notType
  have c2 := PySem.F.called_set.canCreate
  have c3 := PySem.F.typeCall_set_1 (.ref l)
  repeat (any_goals (first | assumption | wp_step))
  refine codeAny_mono (code_set_new_1 (.ref l) (E := E) (Q₁ := fun obj s1 => ∃ led : Bool, obj = .ref s.heap.objs.size ∧ s1 = { s with heap := s.heap.push (emptySet led) }) fun led => ⟨led, rfl, rfl⟩) fun r s1 hr => ?_
  match r, hr with
  | .error e, hr => exact hr
  | .ok (.ret obj), hr =>
    obtain ⟨led, rfl, rfl⟩ := hr
    have gS : (s.heap.push (emptySet led)).get? s.heap.objs.size = some (emptySet led) := Heap.get?_push_size _ rfl
    have tS : Shared.TypeIs { s with heap := s.heap.push (emptySet led) } (.ref s.heap.objs.size) "set" := ⟨_, gS, rfl⟩
    have i1 := PySem.F.called_set.init.lookup
    have i2 := PySem.F.called_set.init.bind (.ref s.heap.objs.size)
    repeat (any_goals (first | assumption | wp_step))
    refine codeAny_mono (codeAny_call_builtin (R := wants (fun r s2 => r = .none ∧ ∃ h' tk, s2 = { s with heap := h', toks := tk } ∧ h'.SetOf knd s.heap.objs.size (fun k => decide (k ∈ met ks)) (met ks).length ∧
        ∀ b o, s.heap.get? b = some o → h'.get? b = some o) E) PySem.F.called_set.init.plain PySem.F.entry_set_init (check_set_init_1 tS ?_)) fun r2 s2 hr2 => ?_
    · have h3 : A.in1.in1.in1.handled = none := by simp [hh]
      have ne : l ≠ (s.heap.push (emptySet led)).objs.size := by
        rw [Heap.size_push]
        exact Nat.ne_of_lt (Nat.lt_succ_of_lt lS)
      have nS : s.heap.objs.size ∉ [(s.heap.push (emptySet led)).objs.size, l] := by
        rw [Heap.size_push]
        simp only [List.mem_cons, List.not_mem_nil, or_false, not_or]
        exact ⟨Nat.ne_of_lt (Nat.lt_succ_self _), Nat.ne_of_gt lS⟩
      have ends : ∀ (o : Obj) (s' : Shared), Moved (s.heap.objs.size :: [(s.heap.push (emptySet led)).objs.size]) (fun a b => b = a) { s with heap := (s.heap.push (emptySet led)).push o } s' →
          s'.heap.SetOf knd s.heap.objs.size (fun k => decide (k ∈ met ks)) (met ks).length →
          ∃ h' tk, s' = { s with heap := h', toks := tk } ∧ h'.SetOf knd s.heap.objs.size (fun k => decide (k ∈ met ks)) (met ks).length ∧ ∀ b o, s.heap.get? b = some o → h'.get? b = some o := fun ob s' mv hs => by
        obtain ⟨h', g', d', tk', os'⟩ := s'
        have e1 : g' = s.gens := mv.gens
        have e2 : d' = s.drawn := mv.drawn
        have e3 : os' = s.os := mv.os
        subst e1 e2 e3
        refine ⟨h', tk', rfl, hs, fun b o e => mv.heap b o ?_ (Heap.get?_push_of_some _ (Heap.get?_push_of_some _ e))⟩
        have q := Heap.lt_size e
        rw [Heap.size_push]
        simp only [List.mem_cons, List.not_mem_nil, or_false, not_or]
        exact ⟨Nat.ne_of_lt q, Nat.ne_of_lt (Nat.lt_succ_of_lt q)⟩
      rcases hl with ⟨⟨oc, od, dt, sl⟩, e, ec, nn, ed⟩ | ⟨⟨oc, od, dt, sl⟩, e, ec, nn, ed⟩
      · simp only at ec ed
        subst ec ed
        have e' : (s.heap.push (emptySet led)).get? l = some ⟨.type "list", od, .seq items nn, sl⟩ := Heap.get?_push_of_some _ e
        have q1 := PySem.F.sub_list_set
        have q2 := PySem.F.sub_list_frozenset
        have q3 : (Value.type "list" == Value.type "dict") = false := by decide
        have hl1 : (s.heap.push (emptySet led)).IsList l items := ⟨_, e', rfl, nn, rfl⟩
        unfold Builtin.«set.__init__» noKeywords Builtin.Frozenset.updateFrom
        generalize hPI : pyIter = PI
        wp_walk
        subst hPI
        refine wpAny_pyIter_list hl1 (wpAny_bind (wpAny_runValue ?_))
        refine set_grow (knd := knd) ((Walks.list h3 _ l ne items).toS) s.heap.objs.size nS ks hn hb hv (items.size - 0) 0 _ (by omega) (Nat.zero_le _) ⟨⟨_, Heap.get?_push_size _ rfl, rfl, rfl⟩, hl1.push _⟩ (empty_met (Heap.get?_push_of_some _ gS)) fun s' mv hs => ?_
        refine wpAny_pure ?_
        show wpAny _ _ (ret Value.none) _ _ _
        exact wpAny_pure ⟨rfl, ends _ s' mv hs⟩
      · simp only at ec ed
        subst ec ed
        have e' : (s.heap.push (emptySet led)).get? l = some ⟨.type "tuple", od, .seq items nn, sl⟩ := Heap.get?_push_of_some _ e
        have q1 := PySem.F.sub_tuple_set
        have q2 := PySem.F.sub_tuple_frozenset
        have q3 : (Value.type "tuple" == Value.type "dict") = false := by decide
        have hl1 : (s.heap.push (emptySet led)).IsTuple l items := ⟨_, e', rfl, nn, rfl⟩
        unfold Builtin.«set.__init__» noKeywords Builtin.Frozenset.updateFrom
        generalize hPI : pyIter = PI
        wp_walk
        subst hPI
        refine wpAny_pyIter_tuple hl1 (wpAny_bind (wpAny_runValue ?_))
        refine set_grow (knd := knd) ((Walks.tuple h3 _ l ne items).toS) s.heap.objs.size nS ks hn hb hv (items.size - 0) 0 _ (by omega) (Nat.zero_le _) ⟨⟨_, Heap.get?_push_size _ rfl, rfl, rfl⟩, hl1.push _⟩ (empty_met (Heap.get?_push_of_some _ gS)) fun s' mv hs => ?_
        refine wpAny_pure ?_
        show wpAny _ _ (ret Value.none) _ _ _
        exact wpAny_pure ⟨rfl, ends _ s' mv hs⟩
    · match r2, hr2 with
      | .error e, hr2 => exact hr2
      | .ok (.ret z), hr2 =>
        obtain ⟨rfl, h', tk, rfl, a, b⟩ := hr2
        repeat (any_goals (first | assumption | wp_step))
        exact h _ _ a b
end
/-- len(set(xs)): a list or a tuple of ints and texts -/
def tLenSetK (K : PySem.W.Frag) (ta : TE) : TE := fun σ H Q => ta σ H fun x H1 => ∃ (l : Addr) (ks : List Key), x = .ref l ∧ (SqL K H1 l (ks.map kV) ∨ SqT K H1 l (ks.map kV)) ∧ ks.length ≤ 4000 ∧ Q (.int ((met ks).length : Nat)) H1
theorem key_of {v : Value} {k : Key} (r : L2.RelV (kV k) v) : keyIs k v = true ∧ v.scannable = true := by
  cases k with
  | inl i =>
    obtain ⟨t, rfl⟩ := r
    exact ⟨keyIs_int i t, rfl⟩
  | inr x =>
    obtain ⟨t, rfl⟩ := r
    exact ⟨keyIs_str x t, rfl⟩
theorem pe_lenSetK {X : Cx} {a : Expr} {ta : TE} {p p2 q pos : Pos} (hg : Gl X "len") (hm : X.mg "len" = none) (hg2 : Gl X "set") (hm2 : X.mg "set" = none) (ha : PE X a ta) (hc : X.calm = true := by rfl)
    (na : starEach [a] X.env = (false, eval a X.env) :: starEach [] X.env := by rfl) : PE X (.Call (.Name "len" p) [.Call (.Name "set" p2) [a] [] q] [] pos) (tLenSetK X.K ta) := by
  refine ⟨fun pins s σ H Q I h => Call_ (ld_blt I hg hm boot_len (PyProof.Rows.callWith_builtin1 (PyProof.Rows.args_cons ?_ rfl) rfl rfl))⟩
  refine Call_ (ld_blt I hg2 hm2 boot_set (PyProof.Rows.callWith_type1 (PyProof.Rows.args_cons (thn (ha.run pins s σ H _ I h) fun v s1 hh => PyProof.Rows.args_nil ?_) na) na rfl))
  obtain ⟨x, H1, I1, r1, l, ks, rfl, hq, hz, q1⟩ := hh
  cases r1
  have key : ∃ its : List Value, Vals (ks.map kV) its ∧ (s1.heap.IsList l its.toArray ∨ s1.heap.IsTuple l its.toArray) := by
    rcases hq with hq | hq
    · obtain ⟨its, r, pl, _⟩ := I1.list hq
      exact ⟨its, r, .inl pl.isList⟩
    · obtain ⟨its, r, pl, _⟩ := I1.tuple hq
      exact ⟨its, r, .inr pl⟩
  obtain ⟨its, r, hl⟩ := key
  have hlen : ks.length = its.toArray.size := by
    rw [List.size_toArray, ← r.length, List.length_map]
  refine call_set_seq (knd := mixKind X.prog X.w) (ks := ks) (I1.ok.hd hc) hl hlen (by rw [← hlen]; unfold scanBound; omega) (fun i v hv => ?_) fun h' tk hS hk => PyProof.Rows.args_nil ?_
  · have hv2 : its[i]? = some v := by simpa using hv
    have lt : i < (ks.map kV).length := by
      rw [r.length]
      exact (List.getElem?_eq_some_iff.mp hv2).1
    obtain ⟨u, e1, e2⟩ := r.get (List.getElem?_eq_getElem lt)
    rw [hv2] at e1
    cases e1
    rw [List.length_map] at lt
    refine ⟨ks[i], List.getElem?_eq_getElem lt, ?_⟩
    rw [List.getElem_map] at e2
    exact key_of e2
  · obtain ⟨o, es, ep, t, ho, hex, hd, _, _, _, hf, hn⟩ := hS
    have I2 : Inv X pins σ H1 { s1 with heap := h', toks := tk } := I1.kept hk
    have ml := met_len ks
    exact call_len_set ho hex hd hf (by rw [hn]; omega) ⟨.int (met ks).length, H1, I2.tok _, ⟨_, by rw [hn]⟩, q1⟩
end HL

namespace HL
open PySem PySem.Spec PyProof.Rows L2
/-! ### defs found by a path of one's own -/
structure DefA where
  at_ : PySem.W.Frag → Addr
  name : Str
  qual : Str
  params : Arguments
  body : List Stmt
  scope : Scope
  dfl : List He.Dv := []
  kwd : List (Str × He.Dv) := []
def fnA (K : PySem.W.Frag) (a : Addr) : He.FnW := match K.lookup a with
  | some ⟨_, _, .func fd, _⟩ => some (fd.name, fd.qualname, fd.params, fd.body, fd.scope, fd.globals, fd.closure, fd.builtins)
  | _ => none
def DefA.val (d : DefA) : He.FnW := some (d.name, d.qual, d.params, .stmts d.body, d.scope, mainGlobals, [], builtinsNs)
def DefA.dvs (K : PySem.W.Frag) (d : DefA) : List V := d.dfl.map (He.Dv.v K)
def DefA.kws (K : PySem.W.Frag) (d : DefA) : List (Str × V) := d.kwd.map fun q => (q.1, q.2.v K)
def DefA.ok (K : PySem.W.Frag) (d : DefA) : Bool := PySem.W.keepIn K (.ref (d.at_ K)) && (match K.lookup (d.at_ K) with
  | some ⟨_, _, .func fd, _⟩ => PySem.W.codeIn K fd.code d.qual && (He.dflB K fd.defaults (d.dvs K) && He.kwdB K fd.kwdefaults (d.kws K))
  | _ => false)
theorem DefA.funD {K : PySem.W.Frag} {d : DefA} (e : fnA K (d.at_ K) = d.val) (c : d.ok K = true) : ∃ fd, FunD K d.name d.qual d.params d.body d.scope (d.dvs K) (d.kws K) (d.at_ K) fd := by
  unfold DefA.ok at c
  obtain ⟨kp, c2⟩ := He.ba c
  unfold fnA at e
  generalize hl : K.lookup (d.at_ K) = o at c2 e
  match o, c2, e with
  | some ⟨oc, od, .func fd, osl⟩, c2, e =>
    obtain ⟨n1, n2, n3, n4, n5, n6, n7, n8, n9, n10, n11, n12, n13, n14, n15⟩ := fd
    have e2 : (some (n1, n2, n3, n4, n5, n6, n7, n15) : He.FnW) = d.val := e
    unfold DefA.val at e2
    simp only [Option.some.injEq, Prod.mk.injEq] at e2
    obtain ⟨h1, h2, h3, h4, h5, h6, h7, h8⟩ := e2
    subst h1 h2 h3 h4 h5 h6 h7 h8
    obtain ⟨k1, k2⟩ := He.ba (show (PySem.W.codeIn K n13 d.qual && (He.dflB K n8 (d.dvs K) && He.kwdB K n9 (d.kws K))) = true from c2)
    obtain ⟨k3, k4⟩ := He.ba k2
    exact ⟨_, ⟨oc, od, n8, n9, n10, n11, n12, n13, n14, osl, rfl, hl, k1, He.dflB_ok k3, He.kwdB_ok k4⟩, kp⟩
abbrev AlH : Type := He.AlX × List He.FnW
def exH (ex : PySem.W.Frag → Bool) (fn : List DefA) (K : PySem.W.Frag) : Bool := ex K && fn.all fun d => d.ok K
def obsH (n : Nat) (fa : List He.Fa) (ts : List He.Tab) (tf : List He.Defn) (ex : PySem.W.Frag → Bool) (fn : List DefA) (g : Addr → Option Obj) : AlH :=
  (He.obsX n fa [] ts tf (exH ex fn) g, fn.map fun d => fnA (He.frT g (He.asD g n)) (d.at_ (He.frT g (He.asD g n))))
def valH (ts : List He.Tab) (fn : List DefA) (w : World) : AlH := (He.valX [] ts w, fn.map DefA.val)
structure SaysH (fa : List He.Fa) (ts : List He.Tab) (tf : List He.Defn) (ex : PySem.W.Frag → Bool) (fn : List DefA) (w : World) (h : Heap) (K : PySem.W.Frag) : Prop where
  x : He.SaysX fa [] ts tf (exH ex fn) w h K
  f : fn.map (fun d => fnA K (d.at_ K)) = fn.map DefA.val
def hookH (n : Nat) (fa : List He.Fa) (ts : List He.Tab) (tf : List He.Defn) (ex : PySem.W.Frag → Bool) (fn : List DefA) : PySem.W.Hook where
  α := AlH
  obs := fun s => obsH n fa ts tf ex fn s.heap.get?
  val := fun w => valH ts fn w
  says := fun w h => ∃ K : PySem.W.Frag, K.In h ∧ SaysH fa ts tf ex fn w h K
  of := fun _ _ e => ⟨_, He.frT_in, He.saysX_of (congrArg (fun z : AlH => z.1) e), congrArg (fun z : AlH => z.2) e⟩
  keeps := fun _ _ _ ⟨K, hK, c⟩ k => ⟨K, PySem.W.Frag.In.keeps hK k, ⟨⟨c.x.t, c.x.more, c.x.hd, c.x.out, fun p hp => k _ _ (c.x.empty p hp)⟩, c.f⟩⟩
theorem obsH_eq {n : Nat} {fa : List He.Fa} {ts : List He.Tab} {tf : List He.Defn} {ex : PySem.W.Frag → Bool} {fn : List DefA} {g : Addr → Option Obj} {s : Shared} (h : ∀ a, g a = s.heap.get? a) : obsH n fa ts tf ex fn g = (hookH n fa ts tf ex fn).obs s := by
  rw [show g = s.heap.get? from funext h]
  rfl
section
variable {fa : List He.Fa} {ts : List He.Tab} {tf : List He.Defn} {ex : PySem.W.Frag → Bool} {fn : List DefA} {w : World} {h : Heap} {K : PySem.W.Frag}
theorem SaysH.more (c : SaysH fa ts tf ex fn w h K) : ex K = true := (He.ba c.x.more).1
theorem SaysH.def_ (c : SaysH fa ts tf ex fn w h K) (i : Nat) {d : DefA} (e : fn[i]? = some d) : ∃ fd, FunD K d.name d.qual d.params d.body d.scope (d.dvs K) (d.kws K) (d.at_ K) fd := by
  have q := congrArg (fun l => l[i]?) c.f
  simp only [List.getElem?_map, e, Option.map_some, Option.some.injEq] at q
  exact DefA.funD q (List.all_eq_true.mp (He.ba c.x.more).2 d (List.mem_of_getElem? e))
end
/-! ### paths -/
def gAt (x : Str) (K : PySem.W.Frag) : Addr := He.ga K x
def mAt (c m : Str) (K : PySem.W.Frag) : Addr := He.ma K (He.ga K c) m
/-- a property's getter -/
def pAt (c m : Str) (K : PySem.W.Frag) : Addr := match PySem.W.recIn K (mAt c m K) "property" with
  | some (.ref g :: _) => g
  | _ => 0
/-- the default of a keyword-only parameter, if it is an object -/
def kwAt (f : PySem.W.Frag → Addr) (x : Str) (K : PySem.W.Frag) : Addr := match K.lookup (f K) with
  | some ⟨_, _, .func fd, _⟩ => (match fd.kwdefaults with
    | .ref d => (match PySem.W.nsIn K d x with
      | some (some (.ref a)) => a
      | _ => 0)
    | _ => 0)
  | _ => 0
/-- a positional default, if it is an object -/
def dfAt (f : PySem.W.Frag → Addr) (i : Nat) (K : PySem.W.Frag) : Addr := match K.lookup (f K) with
  | some ⟨_, _, .func fd, _⟩ => (match fd.defaults with
    | .ref t => (match K.lookup t with
      | some ⟨_, _, .seq its _, _⟩ => (match its.toList[i]? with
        | some (.ref a) => a
        | _ => 0)
      | _ => 0)
    | _ => 0)
  | _ => 0
/-- a tuple of values at a path -/
def tupAB (K : PySem.W.Frag) (a : Addr) (vs : List He.Dv) : Bool := match K.lookup a with
  | some ⟨.type c, _, .seq its _, _⟩ => decide (c = "tuple") && (decide (its.size ≤ sizeLine) && He.relAll (vs.map (He.Dv.v K)) its.toList)
  | _ => false
theorem tupAB_ok {K : PySem.W.Frag} {a : Addr} {vs : List He.Dv} (h : tupAB K a vs = true) (H : Hp) : SqT K H a (vs.map (He.Dv.v K)) := by
  unfold tupAB at h
  split at h
  · rename_i c od its n sl hl
    obtain ⟨h1, h2⟩ := He.ba h
    obtain ⟨h3, h4⟩ := He.ba h2
    exact .inr ⟨_, its, n, hl, congrArg Value.type (of_decide_eq_true h1), rfl, of_decide_eq_true h3, He.relAll_ok h4⟩
  · cases h
/-- a property -/
def propB (K : PySem.W.Frag) (c m : Str) : Bool := He.eqO (PySem.W.findIn K (.ref (He.ga K c)) m) (some (some (.ref (mAt c m K)))) && (He.eqO (PySem.W.specialIn K (.ref (mAt c m K)) "__get__") (some (some (.builtin "property.__get__"))) &&
  (decide (PySem.W.takesIn K (.ref (mAt c m K)) = some true) && (match PySem.W.recIn K (mAt c m K) "property" with
    | some (.ref _ :: _) => true
    | _ => false)))
theorem propB_ok {K : PySem.W.Frag} {c m : Str} (h : propB K c m = true) : PropOf K (He.ga K c) m (mAt c m K) (pAt c m K) := by
  obtain ⟨h1, h⟩ := He.ba h
  obtain ⟨h2, h⟩ := He.ba h
  obtain ⟨h3, h4⟩ := He.ba h
  refine ⟨He.eqO_ok h1, He.eqO_ok h2, of_decide_eq_true h3, ?_⟩
  unfold pAt
  split at h4
  · rename_i g rest e
    rw [e]
    exact ⟨rest, rfl⟩
  · cases h4
/-- own == without own != -/
def eqB (K : PySem.W.Frag) (c : Str) : Bool := He.eqO (PySem.W.findIn K (.ref (He.ga K c)) "__ne__") (some (some (.builtin "object.__ne__"))) && (decide (PySem.W.subIn K (.ref (He.ga K c)) (.type "object") = some true) &&
  (He.eqO (PySem.W.findIn K (.ref (He.ga K c)) "__eq__") (some (some (.ref (mAt c "__eq__" K)))) && PySem.W.isFn K (.ref (mAt c "__eq__" K))))
/-- no built-in class lies below an own one -/
def nfB (K : PySem.W.Frag) (c : Str) (ts : List String) : Bool := ts.all fun t => PySem.W.notFirst K (He.ga K c) (.type t)
end HL

namespace HL
open PySem PySem.Spec PyProof.Rows L2
/-- sorted(xs) of a list or tuple of texts -/
def rSortedQ (K : PySem.W.Frag) : List V → Hp → VK → Prop := fun vs H Q => ∃ (a : Addr) (xs : List Str), vs = [V.ref a] ∧ (SqL K H a (xs.map V.str) ∨ SqT K H a (xs.map V.str)) ∧ xs.length < 64 ∧
  ∀ (ys : List Str) (p : Addr), ys.Perm xs → sortedS ys = true → H p = none → Q (.ref p) (upd H p (.lst (ys.map V.str)))
theorem cr_sortedQ {X : Cx} : CallR X (.builtin "sorted") (rSortedQ X.K) := by
  intro pins s σ H vs us Q I r h
  obtain ⟨a, xs, rfl, hq, h64, q⟩ := h
  have fin : ∀ (its : List Value) (T : String) (o : Obj) (n : Nat), (T = "list" ∨ T = "tuple") → s.heap.get? a = some o → o.cls = .type T → o.data = .seq its.toArray n → Vals (xs.map V.str) its →
      wpAny (model X.prog X.w) X.A (call (.builtin "sorted") us) (EP X pins σ Q) X.xe s := fun its T o n hT ho hc hd rv => by
    rw [Vals.ref1 r]
    have hlen0 := rv.length
    rw [List.length_map] at hlen0
    refine Calls.call_function_entry PyProof.Rows.kind_sorted PyProof.Rows.plain_sorted PyProof.Rows.entry_sorted (PyProof.Rows.args_sorted1 _) ?_
    unfold Builtin.«sorted»
    refine wpAny_bind (m := checkCount "sorted" 1 1 _) (wpAny_pure ?_)
    refine wpAny_bind (wpAny_collect_seq a hT ho hc hd (fun h' kp => ?_) ?_)
    · have I1 : Inv X pins σ H { s with heap := h' } := I.kept (t' := s.toks) kp
      refine wpAny_bind (wpAny_newList ?_ (by rw [← hlen0, sizeLine_eq]; omega))
      have hoL : (h'.push (seqObj "list" its.toArray 0)).get? h'.objs.size = some (seqObj "list" its.toArray 0) := Heap.get?_push_size _ rfl
      show wpAny _ _ _ _ _ { s with heap := h'.push (seqObj "list" its.toArray 0) }
      have hS : StrsAre its xs := rv.strs
      refine wpAny_bind (wpAny_holding (wpAny_call_entry PyProof.Rows.slot_list_sort ⟨_, hoL, rfl⟩ PyProof.Rows.entry_list_sort
        (list_sort_treeK strKind_oneLt (s := { s with heap := h'.push (seqObj "list" its.toArray 0) }) hoL hS.keysOf (fun v₁ v₂ rest e => keyKind_strs (by rw [← e]; exact hS)) (by rw [← hlen0]; exact h64) fun st' hp hs => ⟨_, rfl, ?_⟩)
        (PyProof.Rows.args_list_sort _)))
      obtain ⟨ys, g1, g2, g3⟩ := sorted_out_str hS hp hs
      obtain ⟨e', he'⟩ := PyProof.Rows.sortedHeap_at (vs := its) (out := (arrOf st').map (·.2)) hoL
      have hlen : (ys.map V.str).length ≤ sizeLine := by
        rw [List.length_map, g2.length_eq]
        exact Nat.le_trans (Nat.le_of_lt h64) (by decide)
      refine wpAny_pure ⟨_, rfl, .ref h'.objs.size, upd H h'.objs.size (.lst (ys.map V.str)), I1.laid (t' := s.toks) (fun b u e => ?_) (Nat.le_refl _)
        (show ObjOk X.prog X.w _ _ _ (.lst (ys.map V.str)) from ⟨hlen, ((arrOf st').map (·.2)).toList, e', vals_of_strs g1, by rw [Array.toArray_toList]; exact he'⟩), rfl, q ys _ g2 g3 (I1.hok.fresh (Nat.le_refl _))⟩
      have hb : b < h'.objs.size := Heap.lt_size e
      rw [PyProof.Rows.sortedHeap_old (Nat.ne_of_lt hb) (by rw [size_push']; exact Nat.lt_succ_of_lt hb)]
      exact Heap.get?_push_of_some _ e
    · rw [List.size_toArray, ← hlen0, sizeLine_eq]
      omega
  rcases hq with hq | hq
  · obtain ⟨its, rv, pl, hz⟩ := I.list hq
    obtain ⟨o, ho, hc, n, hd⟩ := pl.isList
    exact fin its _ o n (.inl rfl) ho hc hd rv
  · obtain ⟨its, rv, pl, hz⟩ := I.tuple hq
    obtain ⟨o, ho, hc, n, hd⟩ := pl
    exact fin its _ o n (.inr rfl) ho hc hd rv
end HL

namespace HL
open PySem PySem.Spec PyProof.Rows L2
/-! ### a class whose instances meet isinstance and == -/
def insB (K : PySem.W.Frag) (c : Str) (ts : List String) : Bool := (He.eqO (PySem.W.findIn K (.ref (He.ga K c)) "__class__") (some (some (.builtin "object.__class__"))) &&
  (He.eqO (PySem.W.specialIn K (.builtin "object.__class__") "__get__") (some (some (.builtin "getset_descriptor.__get__"))) && (decide (PySem.W.takesIn K (.builtin "object.__class__") = some true) &&
  decide (PySem.W.mroIn K (He.ga K c) (.type "object") = some true)))) && (ts.all fun t => decide (PySem.W.kitOne K (.type t) (.ref (He.ga K c)) = some false))
theorem ins_ty {K : PySem.W.Frag} {c : Str} {ts : List String} {H : Hp} {a dx : Addr} {fs : List (Str × V)} (h : insB K c ts = true) (cl : Cls K (He.ga K c)) (e : H a = some (.ins (He.ga K c) dx fs)) : TyX K H (.ref a) (.ref (He.ga K c)) := by
  obtain ⟨h, _⟩ := He.ba h
  obtain ⟨h1, h⟩ := He.ba h
  obtain ⟨h2, h⟩ := He.ba h
  obtain ⟨h3, h4⟩ := He.ba h
  exact .base (.ins e cl (He.eqO_ok h1) (He.eqO_ok h2) (of_decide_eq_true h3) (of_decide_eq_true h4))
theorem ins_not {K : PySem.W.Frag} {c : Str} {ts : List String} (h : insB K c ts = true) {t : String} (m : t ∈ ts) : PySem.W.kitOne K (.type t) (.ref (He.ga K c)) = some false :=
  of_decide_eq_true (List.all_eq_true.mp (He.ba h).2 t m)
theorem kit_self {K : PySem.W.Frag} {v : Value} : PySem.W.kitOne K v v = some true := by
  unfold PySem.W.kitOne
  simp
theorem nf_at {K : PySem.W.Frag} {c : Str} {ts : List String} (h : nfB K c ts = true) {t : String} (m : t ∈ ts) : PySem.W.notFirst K (He.ga K c) (.type t) = true := List.all_eq_true.mp h t m
/-! ### a def promised at a place -/
def At (P : Program) (w : World) (K : PySem.W.Frag) (mg : Str → Option Value) (base : Heap) (f : Addr) (k : Nat) (ps : List Str) (sp : Sp) : Prop := ∃ fd, FnOk P w K mg base CX0 k f fd ps sp ∧ Binds K fd ps []
section
variable {P : Program} {w : World} {K : PySem.W.Frag} {mg : Str → Option Value} {base : Heap} {x q : Str} {k : Nat} {ps : List Str} {sp : Sp} {f : Addr}
theorem at_of {st : Stmt} {N : List Str} (F : ∃ fd, FunD K x q (defArgs st) (defBody st) (defScope st) [] [] f fd) (S : FnScope N ps (defScope st))
    (hb : ∀ (kV doc pm : Value) (an : Option Addr) (cdv ct : Value) (us : List Value), us.length = ps.length → bindArgs (PySem.W.fnOf x q (defArgs st) (defBody st) (defScope st) .none kV doc pm an cdv ct) ⟨us, []⟩ = pure (ps.zip us))
    (len : ∀ vs H Q E, sp vs H Q E → vs.length = ps.length)
    (body : ∀ (cdv : Value) (A : Around) (outer : List Env) (s : Shared) (H : Hp) (vs : List V) (Q : VK) (E : XK), Room k (A.deeper (envOfC q (defScope st) s.heap.objs.size f cdv)) → sp vs H Q E →
      ∃ t, PSs (cxOf CX0 P w K mg base N q (defScope st) f cdv A outer s H E).nox (defBody st) t ∧ t { nx := fun _ H' => Q .non H', rt := Q } (start N vs) H) :
    At P w K mg base f (k + 1) ps sp := by
  obtain ⟨fd, F⟩ := F
  refine ⟨fd, F.ok S len fun cdv A outer s H vs Q E hr h => ?_, F.bindsN hb⟩
  obtain ⟨t, h1, h2⟩ := body cdv A outer s H vs Q E hr h
  exact ⟨t, h1.nox, h2⟩
end
section
variable {X : Cx} {k : Nat} {ps : List Str} {sp : Sp} {C f pr : Addr} {m : Str} {pos apos : Pos} {e o : Expr} {es : List Expr} {ta : TE} {t : TA}
theorem pe_at {pl : Sem Bool} (h : At X.prog X.w X.K X.mg X.base f k ps sp) (c : Cls X.K C) (hm : Meth X.K C m f) (hr : Room k X.A) (he : PE X o ta) (ha : PA X (e :: es) t)
    (hst : starEach (e :: es) X.env = (false, eval e X.env) :: starEach es X.env := by rfl) (hpl : (backTo pos (starEach es X.env)).any (·.1) = false := by rfl)
    (ht : eval (.Call (.Attribute o m apos) (e :: es) [] pos) X.env = (do
      let ov ← eval o X.env
      standAt apos.atName
      let (f, first) ← holding [ov] (getMethod ov m pl)
      callWith pos f first (backTo pos (starEach (e :: es) X.env)) (backToKw pos (keywordEach [] X.env))) := by rfl) :
    PE X (.Call (.Attribute o m apos) (e :: es) [] pos) (tMeth C m sp [] E0 ta t) := by
  obtain ⟨fd, F, hb⟩ := h
  exact pe_meth (pl := pl) he c hm F hr hb .nil pass0 ha hst hpl ht
theorem pe_at0 {pl : Sem Bool} (h : At X.prog X.w X.K X.mg X.base f k ps sp) (c : Cls X.K C) (hm : Meth X.K C m f) (hr : Room k X.A) (he : PE X o ta)
    (ht : eval (.Call (.Attribute o m apos) [] [] pos) X.env = (do
      let ov ← eval o X.env
      standAt apos.atName
      let (f, first) ← holding [ov] (getMethod ov m pl)
      callWith pos f first (backTo pos (starEach [] X.env)) (backToKw pos (keywordEach [] X.env))) := by rfl) :
    PE X (.Call (.Attribute o m apos) [] [] pos) (tMeth C m sp [] E0 ta tNil) := by
  obtain ⟨fd, F, hb⟩ := h
  exact pe_meth0 (pl := pl) he c hm F hr hb .nil pass0 ht
theorem pe_atP (h : At X.prog X.w X.K X.mg X.base f k ps sp) (c : Cls X.K C) (hp : PropOf X.K C m pr f) (hr : Room (k + 1) X.A) (he : PE X e ta) (hab : attributeBase e m X.env (eval e X.env) = eval e X.env := by rfl) :
    PE X (.Attribute e m pos) (tProp C sp [] E0 ta) := by
  obtain ⟨fd, F, hb⟩ := h
  exact pe_prop he c hp F hr hb .nil pass0 hab
theorem at_getter {P : Program} {w : World} {K : PySem.W.Frag} {mg : Str → Option Value} {base : Heap} {x q g : Str} {args : Arguments} {body : List Stmt} {sc : Scope} {N : List Str} {p1 p2 p3 : Pos}
    (F : ∃ fd, FunD K x q args body sc [] [] f fd) (S : FnScope N ["self"] sc) (hN : N[0]? = some ("self" : Str)) (hbo : body = [.Return (some (.Attribute (.Name "self" p1) g p2)) p3]) (c : Cls K C) (n : NoAttr K C g)
    (hb : ∀ (kV doc pm : Value) (an : Option Addr) (cdv ct : Value) (us : List Value), us.length = 1 → bindArgs (PySem.W.fnOf x q args body sc .none kV doc pm an cdv ct) ⟨us, []⟩ = pure ((["self"] : List Str).zip us)) :
    At P w K mg base f 1 ["self"] (getSp C g) := by
  obtain ⟨fd, F⟩ := F
  have B := F.bindsN (ps := [Str.ofString "self"]) hb
  obtain ⟨oc, od, dV, kV, doc, pm, an, cdv, ct, osl, rfl, lk, hcd, hD, hK⟩ := F.ex
  exact ⟨_, fn_getter (k := 0) lk hcd S hN hbo c n, B⟩
/-- o.m(k = v, ..) -/
theorem pe_methK0 {CX : CXT} {fd : FuncData} {ks : List Str} {E : XK} {kws : List Keyword} {tk : TA} {g : List Value → List Value → List Value} {gV : List V → List V → List V} {pl : Sem Bool} (he : PE X o ta) (c : Cls X.K C) (hm : Meth X.K C m f)
    (F : FnOk X.prog X.w X.K X.mg X.base CX k f fd ps sp) (hr : Room k X.A) (hb : KBn X.K fd ps 1 ks g gV) (hx : Passes CX X E) (hkw : PK X kws tk)
    (hall : (backToKw pos (keywordEach kws X.env)).all (·.1.isSome) = true := by rfl) (hks : (backToKw pos (keywordEach kws X.env)).filterMap (·.1) = ks := by rfl)
    (hpl : ((backTo pos (starEach [] X.env)).any (·.1) || (backToKw pos (keywordEach kws X.env)).any (·.1.isNone)) = false := by rfl)
    (ht : eval (.Call (.Attribute o m apos) [] kws pos) X.env = (do
      let ov ← eval o X.env
      standAt apos.atName
      let (f, first) ← holding [ov] (getMethod ov m pl)
      callWith pos f first (backTo pos (starEach [] X.env)) (backToKw pos (keywordEach kws X.env))) := by rfl) :
    PE X (.Call (.Attribute o m apos) [] kws pos) (fun σ H Q => ta σ H fun x H1 => ∃ a dx fs, x = .ref a ∧ H1 a = some (.ins C dx fs) ∧ fs.lookup m = none ∧ tk σ H1 fun zs H2 => zs.length = ks.length ∧ sp (gV [.ref a] zs) H2 Q E) := by
  refine ⟨fun pins s σ H Q I h => ?_⟩
  refine PySem.W.methodCall_KW (pl := pl) (thn (he.run pins s σ H _ I h) fun u s1 ⟨x, H1, I1, rx, a, dx, fs, ex, ea, l, q⟩ => ?_) ht
  subst ex
  obtain rfl : u = Value.ref a := rx
  refine getmeth_ok I1 ea c hm l ?_
  refine PySem.W.callWith_KW0 (first := [.ref a]) (h₀ := X.base) I.ok.mod.kin hm.kp hall ?_ hpl
  refine thn (hkw.run pos pins s1 σ H1 _ I1 q) fun ws s2 ⟨zs, H2, I2, rz, lz, q2⟩ => ⟨I2.kIn, ?_⟩
  rw [hks]
  have r2 := hb.rel (vs := [.ref a]) (us := [.ref a]) (.cons rfl .nil) rz
  refine wpAny_call (codeAny_mono (F.run X.A X.stack s2 H2 ⟨[.ref a], ks.zip ws⟩ (g [.ref a] ws) (gV [.ref a] zs) Q E hr I2.env0 (hb.to s2 [.ref a] ws I2.kIn rfl (rz.length.symm.trans lz)) r2 q2) fun r s' hq => ?_)
  cases r with
  | error e => exact hx pins σ H2 s2 e s' I2 hq
  | ok fl =>
    cases fl with
    | ret u => exact I2.after hq
    | next => exact False.elim hq
    | brk => exact False.elim hq
    | cont => exact False.elim hq
end
/-! ### == of own objects -/
section
variable {X : Cx} {n : Nat} {c : Str} {ps : List Str} {sp : Sp}
theorem op_eqA (h : At X.prog X.w X.K X.mg X.base (mAt c "__eq__" X.K) n ps sp) (e : eqB X.K c = true) (hr : Room n X.A) : OpR X (compareOp .Eq) (rOwn X.K (He.ga X.K c) sp false) := by
  obtain ⟨fd, F, hb⟩ := h
  obtain ⟨h1, e⟩ := He.ba e
  obtain ⟨h2, e⟩ := He.ba e
  obtain ⟨h3, h4⟩ := He.ba e
  exact op_eqO F (He.eqO_ok h3) h4 hb hr
theorem op_neA (h : At X.prog X.w X.K X.mg X.base (mAt c "__eq__" X.K) n ps sp) (e : eqB X.K c = true) (hr : Room (n + 1) X.A) : OpR X (compareOp .NotEq) (rOwn X.K (He.ga X.K c) sp true) := by
  obtain ⟨fd, F, hb⟩ := h
  obtain ⟨h1, e⟩ := He.ba e
  obtain ⟨h2, e⟩ := He.ba e
  obtain ⟨h3, h4⟩ := He.ba e
  exact op_neO F (He.eqO_ok h1) (of_decide_eq_true h2) (He.eqO_ok h3) h4 hb hr
end
/-! ### texts in a row -/
theorem inV_strs {z : Str} : ∀ ws : List Str, inV (.str z) (ws.map V.str) = decide (z ∈ ws)
  | [] => rfl
  | y :: r => by
    have q := inV_strs (z := z) r
    unfold inV at q ⊢
    rw [List.map_cons, List.any_cons, q]
    by_cases h : y = z
    · subst h
      simp [eqV]
    · have h2 : ¬ z = y := fun e => h e.symm
      simp [eqV, h, h2]
theorem flat_strs (ws : List Str) : (ws.map V.str).all flatV = true := by
  rw [List.all_map]
  exact List.all_eq_true.mpr fun _ _ => rfl
end HL

namespace HL
open PySem PySem.Spec PyProof.Rows L2
theorem ty_l {K : PySem.W.Frag} {H : Hp} {a : Addr} {xs : List V} (h : SqL K H a xs) : TyX K H (.ref a) (.type "list") := by
  rcases h with (h | ⟨o, h⟩) | ⟨o, its, n, h1, h2, _⟩
  · exact .base (.lst h)
  · exact .base (.frz h)
  · exact .kList h1 h2
theorem ty_t {K : PySem.W.Frag} {H : Hp} {a : Addr} {xs : List V} (h : SqT K H a xs) : TyX K H (.ref a) (.type "tuple") := by
  rcases h with (h | ⟨o, h⟩) | ⟨o, its, n, h1, h2, _⟩
  · exact .base (.tup h)
  · exact .fTuple h
  · exact .kTuple h1 h2
section
variable {K : PySem.W.Frag} {a : Addr} {xs : List V} {g : TG} {tt : TT} {te : TE} {vs : List Nat} {σ : L2.St} {H1 : Hp} {D : Addr} {Qd : Hp → Prop}
theorem take_succ' {α : Type} {xs : List α} {i : Nat} {x : α} (h : xs[i]? = some x) : xs.take (i + 1) = xs.take i ++ [x] := by
  rw [List.take_add_one, h]
  rfl
theorem acc_step {p : V → Bool} {f : V → V} {i : Nat} {x : V} (h : xs[i]? = some x) : ((xs.take (i + 1)).filter p).map f = if p x = true then ((xs.take i).filter p).map f ++ [f x] else ((xs.take i).filter p).map f := by
  rw [take_succ' h, List.filter_append, List.map_append]
  by_cases e : p x = true
  · simp [e]
  · simp [e]
theorem acc_len {p : V → Bool} {f : V → V} {i : Nat} {x : V} (h : xs[i]? = some x) : (((xs.take i).filter p).map f).length < xs.length := by
  have h1 : i < xs.length := (List.getElem?_eq_some_iff.mp h).1
  have h2 := List.length_filter_le p (xs.take i)
  rw [List.length_take] at h2
  rw [List.length_map]
  omega
/-- [f(x) for x in xs if p(x)] of a list, all of it leaving the heap as it is -/
theorem lcl_pure (p : V → Bool) (f : V → V) (hD : H1 D = none) (hl : SqL K H1 a xs) (hz : xs.length ≤ sizeLine)
    (hs : ∀ (i : Nat) (x : V) (H' : Hp) (Q' : VK) (R : Hp → Prop), xs[i]? = some x → Same H1 H' → (p x = true → Q' (f x) H') → (p x = false → R H') → g x (wipe σ vs) H' fun σ2 H2 => wipe σ2 vs = wipe σ vs ∧ tt σ2 H2 fun b H3 => if b = true then te σ2 H3 Q' else R H3)
    (hd : Qd (upd H1 D (.lst ((xs.filter p).map f)))) :
    ∃ W : Nat → Nat → Hp → Prop, (∃ m, W 0 m (upd H1 D (.lst []))) ∧ ∀ i m H, W i m H →
      ((Itl K a).stop i H ∧ Qd H) ∨ ((Itl K a).go i H ∧ ∃ Nx : Hp → Prop, (∀ H', Nx H' → ∃ m', m' < m ∧ W (i + 1) m' H') ∧ ∀ x H', (Itl K a).yld i H x H' → g x (wipe σ vs) H' fun σ2 H2 => wipe σ2 vs = wipe σ vs ∧ tt σ2 H2 fun b H3 =>
        if b = true then te σ2 H3 fun y H4 => ∃ acc, H4 D = some (.lst acc) ∧ acc.length < sizeLine ∧ Nx (upd H4 D (.lst (acc ++ [y]))) else Nx H3) := by
  refine lc_list (K := K) (a := a) (xs := xs) (fun i H' => H' = upd H1 D (.lst (((xs.take i).filter p).map f))) rfl ?_ ?_ ?_
  · rintro i H' _ rfl
    exact (same_new hD).seq hl
  · rintro i x H' hx rfl
    refine hs i x _ _ _ hx (same_new hD) (fun e => ?_) (fun e => ?_)
    · refine ⟨_, upd_same, Nat.lt_of_lt_of_le (acc_len hx) hz, ?_⟩
      rw [upd_upd, acc_step hx, if_pos e]
    · rw [acc_step hx, if_neg (by rw [e]; intro z; cases z)]
  · rintro H' rfl
    rw [List.take_length]
    exact hd
theorem lct_pure (p : V → Bool) (f : V → V) (hD : H1 D = none) (hl : SqT K H1 a xs) (hz : xs.length ≤ sizeLine)
    (hs : ∀ (i : Nat) (x : V) (H' : Hp) (Q' : VK) (R : Hp → Prop), xs[i]? = some x → Same H1 H' → (p x = true → Q' (f x) H') → (p x = false → R H') → g x (wipe σ vs) H' fun σ2 H2 => wipe σ2 vs = wipe σ vs ∧ tt σ2 H2 fun b H3 => if b = true then te σ2 H3 Q' else R H3)
    (hd : Qd (upd H1 D (.lst ((xs.filter p).map f)))) :
    ∃ W : Nat → Nat → Hp → Prop, (∃ m, W 0 m (upd H1 D (.lst []))) ∧ ∀ i m H, W i m H →
      ((Itt K a).stop i H ∧ Qd H) ∨ ((Itt K a).go i H ∧ ∃ Nx : Hp → Prop, (∀ H', Nx H' → ∃ m', m' < m ∧ W (i + 1) m' H') ∧ ∀ x H', (Itt K a).yld i H x H' → g x (wipe σ vs) H' fun σ2 H2 => wipe σ2 vs = wipe σ vs ∧ tt σ2 H2 fun b H3 =>
        if b = true then te σ2 H3 fun y H4 => ∃ acc, H4 D = some (.lst acc) ∧ acc.length < sizeLine ∧ Nx (upd H4 D (.lst (acc ++ [y]))) else Nx H3) := by
  refine lc_tup (K := K) (a := a) (xs := xs) (fun i H' => H' = upd H1 D (.lst (((xs.take i).filter p).map f))) rfl ?_ ?_ ?_
  · rintro i H' _ rfl
    exact same_t (same_new hD) hl
  · rintro i x H' hx rfl
    refine hs i x _ _ _ hx (same_new hD) (fun e => ?_) (fun e => ?_)
    · refine ⟨_, upd_same, Nat.lt_of_lt_of_le (acc_len hx) hz, ?_⟩
      rw [upd_upd, acc_step hx, if_pos e]
    · rw [acc_step hx, if_neg (by rw [e]; intro z; cases z)]
  · rintro H' rfl
    rw [List.take_length]
    exact hd
theorem filter_yes {xs : List V} : xs.filter (fun _ => true) = xs := List.filter_eq_self.mpr fun _ _ => rfl
/-- a test that always holds -/
theorem yes2 {σ : L2.St} {H : Hp} {A B : Hp → Prop} (h : A H) : tYes σ H (fun b H3 => if b = true then A H3 else B H3) := yes_ h
end
end HL

namespace HL
open PySem PySem.Spec PyProof.Rows L2
/-! ### data of texts -/
theorem eqvAll_strs : ∀ xs ys : List Str, PyData.eqvAll (xs.map PyData.str) (ys.map PyData.str) = decide (xs = ys)
  | [], [] => rfl
  | [], _ :: _ => rfl
  | _ :: _, [] => rfl
  | x :: xs, y :: ys => by
    rw [List.map_cons, List.map_cons, PyData.eqvAll, PyData.eqv, eqvAll_strs xs ys]
    by_cases h : x = y
    · subst h
      simp
    · simp [h]
theorem depthAll_strs : ∀ xs : List Str, PyData.depthAll (xs.map PyData.str) = 0
  | [] => rfl
  | x :: xs => by
    rw [List.map_cons, PyData.depthAll, depthAll_strs xs]
    rfl
theorem canLay_strs : ∀ xs : List Str, (∀ z ∈ xs, PyData.strOk z = true) → PyData.canLayAll0 (xs.map PyData.str) = true
  | [], _ => rfl
  | x :: xs, h => by
    rw [List.map_cons, PyData.canLayAll0, canLay_strs xs fun z hz => h z (List.mem_cons_of_mem _ hz)]
    show (PyData.strOk x && true) = true
    rw [h x List.mem_cons_self]
    rfl
theorem shaped_tupS {xs : List Str} (h : ∀ z ∈ xs, PyData.strOk z = true) : SeqAt.shaped (.tuple (xs.map PyData.str)) = true := by
  unfold SeqAt.shaped
  rw [PyData.canLay0, canLay_strs xs h, PyData.depth, depthAll_strs]
  rfl
theorem shaped_lstS {xs : List Str} (h : ∀ z ∈ xs, PyData.strOk z = true) : SeqAt.shaped (.list (xs.map PyData.str)) = true := by
  unfold SeqAt.shaped
  rw [PyData.canLay0, canLay_strs xs h, PyData.depth, depthAll_strs]
  rfl
/-! ### how long a shown text is -/
theorem textFrom_le : ∀ (ts : List Str) (k : Nat) (acc : Str), (textFrom k acc ts).length ≤ acc.length + piled ts
  | [], k, acc => Nat.le_add_right _ _
  | t :: r, k, acc => by
    have q := textFrom_le r (k + 1) (acc ++ (if k > 0 then ", " else "" : String) ++ t)
    have e : (acc ++ (if k > 0 then ", " else "" : String) ++ t).length ≤ acc.length + 2 + t.length := by
      rw [strLen_append, strLen_append]
      split
      · exact Nat.le_refl _
      · show acc.length + 0 + t.length ≤ _
        omega
    have p : piled (t :: r) = t.length + 2 + piled r := by simp [piled]
    show (textFrom (k + 1) (acc ++ (if k > 0 then ", " else "" : String) ++ t) r).length ≤ _
    omega
theorem listText_le (ts : List Str) : (listText ts).length ≤ piled ts + 2 := by
  have q := textFrom_le ts 0 "["
  unfold listText
  rw [strLen_append]
  have e1 : ((("[" : String) : Str)).length = 1 := rfl
  have e2 : ((("]" : String) : Str)).length = 1 := rfl
  omega
theorem tupleText_le (ts : List Str) : (tupleText ts).length ≤ piled ts + 3 := by
  unfold tupleText
  rw [strLen_append, strLen_append]
  have e1 : ((("(" : String) : Str)).length = 1 := rfl
  have e3 : ((if ts.length == 1 then ",)" else ")" : String) : Str).length ≤ 2 := by
    split
    · exact Nat.le_refl _
    · exact Nat.le_succ _
  have e2 : (Str.join ", " ts).length ≤ piled ts := by
    by_cases h : ts = []
    · subst h
      exact Nat.zero_le _
    · have := join_length_add ts h
      omega
  omega
theorem piled_le {n : Nat} : ∀ ts : List Str, (∀ t ∈ ts, t.length ≤ n) → piled ts ≤ ts.length * (n + 2)
  | [], _ => by simp [piled]
  | t :: r, h => by
    have q := piled_le r fun x hx => h x (List.mem_cons_of_mem _ hx)
    have := h t List.mem_cons_self
    have p : piled (t :: r) = t.length + 2 + piled r := by simp [piled]
    rw [p, List.length_cons, Nat.add_mul]
    omega
theorem shownAll_map : ∀ ds : List PyData, PyData.shownAll ds = ds.map PyData.shown
  | [] => rfl
  | d :: ds => by
    rw [PyData.shownAll, shownAll_map ds]
    rfl
theorem showableAll_all : ∀ ds : List PyData, (∀ d ∈ ds, d.showable = true) → PyData.showableAll ds = true
  | [], _ => rfl
  | d :: ds, h => by
    rw [PyData.showableAll, h d List.mem_cons_self, showableAll_all ds fun x hx => h x (List.mem_cons_of_mem _ hx)]
    rfl
end HL

namespace HL
open PySem PySem.Spec PyProof.Rows L2
/-- d[k] = v as a target -/
def sDict : TSet := fun o i v H Q => ∃ (a : Addr) (H' : Hp), o = .ref a ∧ DPut H a i v H' ∧ Q H'
theorem set_dict {X : Cx} (hu : X.A.units + 1 < cLine) : PSet X sDict := by
  intro pins s σ H o i v ov iv u Q I ro ri rv h
  obtain ⟨a, H', rfl, g, q⟩ := h
  cases ro
  exact d_setItem hu I g ri rv fun s' I' => ⟨H', I', q⟩
theorem TyX.kp {K : PySem.W.Frag} {H H' : Hp} {v : V} {t : Value} (h : TyX K H v t) (e : Kp H H') : TyX K H' v t := by
  cases h with
  | base b =>
    cases b with
    | non => exact .base .non
    | bl x => exact .base (.bl x)
    | int x => exact .base (.int x)
    | str x => exact .base (.str x)
    | flt x => exact .base (.flt x)
    | lst q => exact .base (.lst (e.lst q))
    | frz q => exact .base (.frz (e.frz q))
    | tup q => exact .base (.tup (e.tup q))
    | dK q => exact .base (.dK (e.dK q))
    | dT q => exact .base (.dT (e _ _ (fun _ z => by cases z) q))
    | ins q a b c d f => exact .base (.ins (e.ins q) a b c d f)
  | byt b => exact .byt b
  | set q => exact .set (e _ _ (fun _ z => by cases z) q)
  | kList a b => exact .kList a b
  | kTuple a b => exact .kTuple a b
  | kDict a b => exact .kDict a b
  | fTuple q => exact .fTuple (e.frz q)
  | fDict q => exact .fDict (e.frz q)
/-- a new object: the heap by a name -/
theorem new_ {H : Hp} {p : Addr} {o : HO} (h : H p = none) : ∃ H1, upd H p o = H1 ∧ Same H H1 ∧ H1 p = some o := ⟨_, rfl, same_new h, upd_same⟩
theorem new_s {H H1 : Hp} {p : Addr} {o : HO} (e : upd H p o = H1) (h : H p = none) : Same H H1 := by
  rw [← e]
  exact same_new h
theorem new_f {H H1 : Hp} {p : Addr} {o : HO} (e : upd H p o = H1) : H1 p = some o := by
  rw [← e]
  exact upd_same
theorem same_none {H H' : Hp} {a : Addr} (e : Same H H') (h : H' a = none) : H a = none := by
  cases q : H a with
  | none => rfl
  | some o =>
    rw [e _ _ q] at h
    cases h
/-- the names of the built-in kinds -/
def kinds7 : List String := ["NoneType", "bool", "int", "str", "list", "tuple", "dict"]
end HL

namespace HL
open PySem PySem.Spec PyProof.Rows L2
/-! ### a sorted row is one -/
theorem perm_one {α : Type} {R : α → α → Prop} (anti : ∀ a b, R a b → R b a → a = b) : ∀ (l m : List α), l.Pairwise R → m.Pairwise R → l.Perm m → l = m
  | [], m, _, _, p => by
    have := p.length_eq
    cases m with
    | nil => rfl
    | cons _ _ => simp at this
  | x :: l, [], _, _, p => by
    have := p.length_eq
    simp at this
  | x :: l, y :: m, h1, h2, p => by
    obtain ⟨a1, a2⟩ := List.pairwise_cons.mp h1
    obtain ⟨b1, b2⟩ := List.pairwise_cons.mp h2
    have e : x = y := by
      have hx : x ∈ y :: m := p.mem_iff.mp List.mem_cons_self
      have hy : y ∈ x :: l := p.mem_iff.mpr List.mem_cons_self
      rcases List.mem_cons.mp hx with e | hx
      · exact e
      · rcases List.mem_cons.mp hy with e | hy
        · exact e.symm
        · exact anti _ _ (a1 y hy) (b1 x hx)
    subst e
    rw [perm_one anti l m a2 b2 (List.Perm.cons_inv p)]
def leS (a b : Str) : Prop := ltCps b.cps.toList a.cps.toList = false
theorem leS_iff {a b : Str} : leS a b ↔ a.cps.toList ≤ b.cps.toList := by
  unfold leS
  rw [ltCps_eq, decide_eq_false_iff_not]
  exact Iff.rfl
theorem leS_trans {a b c : Str} (h1 : leS a b) (h2 : leS b c) : leS a c := leS_iff.mpr (List.le_trans (leS_iff.mp h1) (leS_iff.mp h2))
theorem leS_anti {a b : Str} (h1 : leS a b) (h2 : leS b a) : a = b := by
  have e := List.le_antisymm (leS_iff.mp h1) (leS_iff.mp h2)
  obtain ⟨⟨x⟩⟩ := a
  obtain ⟨⟨y⟩⟩ := b
  cases e
  rfl
theorem rising_pw : ∀ (p : Str) (r : List Str), risingS p r = true → (p :: r).Pairwise leS
  | p, [], _ => by simp
  | p, x :: r, h => by
    unfold risingS at h
    rw [Bool.and_eq_true, Bool.not_eq_true'] at h
    have q := rising_pw x r h.2
    refine List.pairwise_cons.mpr ⟨fun y hy => ?_, q⟩
    rcases List.mem_cons.mp hy with rfl | hy
    · exact h.1
    · exact leS_trans h.1 ((List.pairwise_cons.mp q).1 y hy)
theorem sortedS_pw {l : List Str} (h : sortedS l = true) : l.Pairwise leS := by
  cases l with
  | nil => exact .nil
  | cons x r => exact rising_pw x r h
theorem sortedS_one {l m : List Str} (h1 : sortedS l = true) (h2 : sortedS m = true) (p : l.Perm m) : l = m := perm_one (fun _ _ => leS_anti) l m (sortedS_pw h1) (sortedS_pw h2) p
end HL

namespace HL
open PySem PySem.Spec PyProof.Rows L2

def top (i : Nat) : Stmt := PySem.Challenge.pw_heldlives_k02_books_told.main.body.getD i (.Pass ⟨0, 0, 0, 0⟩)
abbrev s_is_one_of : Stmt := top 11
abbrev N_is_one_of : List Str := ["thing", "words"]
theorem sc_is_one_of : FnScope N_is_one_of ["thing", "words"] (defScope s_is_one_of) := ⟨rfl, rfl, rfl, by decide +kernel, rfl, by decide +kernel, by decide +kernel⟩
abbrev s_are_bars : Stmt := top 12
abbrev N_are_bars : List Str := ["thing", "word"]
theorem sc_are_bars : FnScope N_are_bars ["thing"] (defScope s_are_bars) := ⟨rfl, rfl, rfl, by decide +kernel, rfl, by decide +kernel, by decide +kernel⟩
abbrev s_need_field : Stmt := top 13
abbrev N_need_field : List Str := ["field", "thing", "words"]
theorem sc_need_field : FnScope N_need_field ["field", "thing", "words"] (defScope s_need_field) := ⟨rfl, rfl, rfl, by decide +kernel, rfl, by decide +kernel, by decide +kernel⟩
abbrev s_Book_init : Stmt := inClass (top 14) 0
abbrev N_Book_init : List Str := ["self", "held", "each", "lifted", "ends", "works", "bars"]
theorem sc_Book_init : FnScope N_Book_init ["self", "held", "each", "lifted", "ends", "works", "bars"] (defScope s_Book_init) := ⟨rfl, rfl, rfl, by decide +kernel, rfl, by decide +kernel, by decide +kernel⟩
abbrev s_Book_held : Stmt := inClass (top 14) 1
abbrev N_Book_held : List Str := ["self"]
theorem sc_Book_held : FnScope N_Book_held ["self"] (defScope s_Book_held) := ⟨rfl, rfl, rfl, by decide +kernel, rfl, by decide +kernel, by decide +kernel⟩
abbrev s_Book_each : Stmt := inClass (top 14) 2
abbrev N_Book_each : List Str := ["self"]
theorem sc_Book_each : FnScope N_Book_each ["self"] (defScope s_Book_each) := ⟨rfl, rfl, rfl, by decide +kernel, rfl, by decide +kernel, by decide +kernel⟩
abbrev s_Book_lifted : Stmt := inClass (top 14) 3
abbrev N_Book_lifted : List Str := ["self"]
theorem sc_Book_lifted : FnScope N_Book_lifted ["self"] (defScope s_Book_lifted) := ⟨rfl, rfl, rfl, by decide +kernel, rfl, by decide +kernel, by decide +kernel⟩
abbrev s_Book_ends : Stmt := inClass (top 14) 4
abbrev N_Book_ends : List Str := ["self"]
theorem sc_Book_ends : FnScope N_Book_ends ["self"] (defScope s_Book_ends) := ⟨rfl, rfl, rfl, by decide +kernel, rfl, by decide +kernel, by decide +kernel⟩
abbrev s_Book_works : Stmt := inClass (top 14) 5
abbrev N_Book_works : List Str := ["self"]
theorem sc_Book_works : FnScope N_Book_works ["self"] (defScope s_Book_works) := ⟨rfl, rfl, rfl, by decide +kernel, rfl, by decide +kernel, by decide +kernel⟩
abbrev s_Book_bars : Stmt := inClass (top 14) 6
abbrev N_Book_bars : List Str := ["self"]
theorem sc_Book_bars : FnScope N_Book_bars ["self"] (defScope s_Book_bars) := ⟨rfl, rfl, rfl, by decide +kernel, rfl, by decide +kernel, by decide +kernel⟩
abbrev s_Book_choices : Stmt := inClass (top 14) 7
abbrev N_Book_choices : List Str := ["self"]
theorem sc_Book_choices : FnScope N_Book_choices ["self"] (defScope s_Book_choices) := ⟨rfl, rfl, rfl, by decide +kernel, rfl, by decide +kernel, by decide +kernel⟩
abbrev s_Book_eq : Stmt := inClass (top 14) 8
abbrev N_Book_eq : List Str := ["self", "other"]
theorem sc_Book_eq : FnScope N_Book_eq ["self", "other"] (defScope s_Book_eq) := ⟨rfl, rfl, rfl, by decide +kernel, rfl, by decide +kernel, by decide +kernel⟩
abbrev s_Book_with_bars : Stmt := inClass (top 14) 9
abbrev N_Book_with_bars : List Str := ["self", "bars", "held", "each", "lifted", "ends", "works"]
theorem sc_Book_with_bars : FnScope N_Book_with_bars ["self", "bars"] (defScope s_Book_with_bars) := ⟨rfl, rfl, rfl, by decide +kernel, rfl, by decide +kernel, by decide +kernel⟩
abbrev s_law_begun : Stmt := top 16
abbrev N_law_begun : List Str := ["_law_script", "_law_wide", "_law_cell"]
theorem sc_law_begun : FnScope N_law_begun ["_law_script"] (defScope s_law_begun) := ⟨rfl, rfl, rfl, by decide +kernel, rfl, by decide +kernel, by decide +kernel⟩
abbrev s_law_mixed : Stmt := top 17
abbrev N_law_mixed : List Str := ["_law_draw", "_law_turn", "_law_found", "_law_prime", "_law_blend", "_law_cell"]
theorem sc_law_mixed : FnScope N_law_mixed ["_law_draw"] (defScope s_law_mixed) := ⟨rfl, rfl, rfl, by decide +kernel, rfl, by decide +kernel, by decide +kernel⟩
abbrev s_law_take : Stmt := top 18
abbrev N_law_take : List Str := ["_law_draw", "_law_size", "_law_found"]
theorem sc_law_take : FnScope N_law_take ["_law_draw", "_law_size"] (defScope s_law_take) := ⟨rfl, rfl, rfl, by decide +kernel, rfl, by decide +kernel, by decide +kernel⟩
abbrev s_law_pick : Stmt := top 19
abbrev N_law_pick : List Str := ["_law_draw", "_law_some"]
theorem sc_law_pick : FnScope N_law_pick ["_law_draw", "_law_some"] (defScope s_law_pick) := ⟨rfl, rfl, rfl, by decide +kernel, rfl, by decide +kernel, by decide +kernel⟩
abbrev s_law_shuffled : Stmt := top 20
abbrev N_law_shuffled : List Str := ["_law_draw", "_law_some", "_law_left", "_law_found"]
theorem sc_law_shuffled : FnScope N_law_shuffled ["_law_draw", "_law_some"] (defScope s_law_shuffled) := ⟨rfl, rfl, rfl, by decide +kernel, rfl, by decide +kernel, by decide +kernel⟩
abbrev s_law_odd : Stmt := top 21
abbrev N_law_odd : List Str := ["_law_draw", "_law_some"]
theorem sc_law_odd : FnScope N_law_odd ["_law_draw"] (defScope s_law_odd) := ⟨rfl, rfl, rfl, by decide +kernel, rfl, by decide +kernel, by decide +kernel⟩
abbrev s_law_all_bars : Stmt := top 22
abbrev N_law_all_bars : List Str := []
theorem sc_law_all_bars : FnScope N_law_all_bars [] (defScope s_law_all_bars) := ⟨rfl, rfl, rfl, by decide +kernel, rfl, by decide +kernel, by decide +kernel⟩
abbrev s_law_book : Stmt := top 23
abbrev N_law_book : List Str := ["_law_fields", "_law_sets"]
theorem sc_law_book : FnScope N_law_book ["_law_fields"] (defScope s_law_book) := ⟨rfl, rfl, rfl, by decide +kernel, rfl, by decide +kernel, by decide +kernel⟩
abbrev s_law_choices : Stmt := top 24
abbrev N_law_choices : List Str := ["_law_found"]
theorem sc_law_choices : FnScope N_law_choices [] (defScope s_law_choices) := ⟨rfl, rfl, rfl, by decide +kernel, rfl, by decide +kernel, by decide +kernel⟩
abbrev s_law_any_fields : Stmt := top 25
abbrev N_law_any_fields : List Str := ["_law_draw", "_law_found", "_law_field", "_law_words", "_law_word"]
theorem sc_law_any_fields : FnScope N_law_any_fields ["_law_draw"] (defScope s_law_any_fields) := ⟨rfl, rfl, rfl, by decide +kernel, rfl, by decide +kernel, by decide +kernel⟩
abbrev s_law_is_told : Stmt := top 26
abbrev N_law_is_told : List Str := ["_law_made", "_law_fields", "_law_told", "_law_due", "_law_field", "_law_words"]
theorem sc_law_is_told : FnScope N_law_is_told ["_law_made", "_law_fields"] (defScope s_law_is_told) := ⟨rfl, rfl, rfl, by decide +kernel, rfl, by decide +kernel, by decide +kernel⟩
abbrev s_law_others : Stmt := top 27
abbrev N_law_others : List Str := ["_law_fields", "_law_found", "_law_field", "_law_words", "_law_word", "_law_other", "_law_one"]
theorem sc_law_others : FnScope N_law_others ["_law_fields"] (defScope s_law_others) := ⟨rfl, rfl, rfl, by decide +kernel, rfl, by decide +kernel, by decide +kernel⟩
abbrev s_law_left_out_right : Stmt := top 28
abbrev N_law_left_out_right : List Str := ["_law_fields", "_law_plain", "_law_one", "_law_two", "_law_three", "_law_mixed_here", "_law_field", "_law_pairs", "_law_made", "_law_due"]
theorem sc_law_left_out_right : FnScope N_law_left_out_right ["_law_fields"] (defScope s_law_left_out_right) := ⟨rfl, rfl, rfl, by decide +kernel, rfl, by decide +kernel, by decide +kernel⟩
abbrev s_law_with_bars_right : Stmt := top 29
abbrev N_law_with_bars_right : List Str := ["_law_draw", "_law_made", "_law_fields", "_law_other", "_law_given", "_law_later"]
theorem sc_law_with_bars_right : FnScope N_law_with_bars_right ["_law_draw", "_law_made", "_law_fields"] (defScope s_law_with_bars_right) := ⟨rfl, rfl, rfl, by decide +kernel, rfl, by decide +kernel, by decide +kernel⟩
abbrev s_law : Stmt := top 30
abbrev N_law : List Str := ["_law_script", "_law_draw", "_law_turn", "_law_fields", "_law_given", "_law_made", "_law_other", "_law_odd_here"]
theorem sc_law : FnScope N_law ["_law_script"] (defScope s_law) := ⟨rfl, rfl, rfl, by decide +kernel, rfl, by decide +kernel, by decide +kernel⟩
def dd_is_one_of : DefA := ⟨gAt "is_one_of", "is_one_of", "is_one_of", defArgs s_is_one_of, defBody s_is_one_of, defScope s_is_one_of, [], []⟩
def dd_are_bars : DefA := ⟨gAt "are_bars", "are_bars", "are_bars", defArgs s_are_bars, defBody s_are_bars, defScope s_are_bars, [], []⟩
def dd_need_field : DefA := ⟨gAt "need_field", "need_field", "need_field", defArgs s_need_field, defBody s_need_field, defScope s_need_field, [], []⟩
def dd_Book_init : DefA := ⟨mAt "Book" "__init__", "__init__", "Book.__init__", defArgs s_Book_init, defBody s_Book_init, defScope s_Book_init, [], [("held", .str "home"), ("each", .str "now"), ("lifted", .str "nothing"), ("ends", .str "scope"), ("works", .str "own"), ("bars", .adr (kwAt (mAt "Book" "__init__") "bars"))]⟩
def dd_Book_held : DefA := ⟨pAt "Book" "held", "held", "Book.held", defArgs s_Book_held, defBody s_Book_held, defScope s_Book_held, [], []⟩
def dd_Book_each : DefA := ⟨pAt "Book" "each", "each", "Book.each", defArgs s_Book_each, defBody s_Book_each, defScope s_Book_each, [], []⟩
def dd_Book_lifted : DefA := ⟨pAt "Book" "lifted", "lifted", "Book.lifted", defArgs s_Book_lifted, defBody s_Book_lifted, defScope s_Book_lifted, [], []⟩
def dd_Book_ends : DefA := ⟨pAt "Book" "ends", "ends", "Book.ends", defArgs s_Book_ends, defBody s_Book_ends, defScope s_Book_ends, [], []⟩
def dd_Book_works : DefA := ⟨pAt "Book" "works", "works", "Book.works", defArgs s_Book_works, defBody s_Book_works, defScope s_Book_works, [], []⟩
def dd_Book_bars : DefA := ⟨pAt "Book" "bars", "bars", "Book.bars", defArgs s_Book_bars, defBody s_Book_bars, defScope s_Book_bars, [], []⟩
def dd_Book_choices : DefA := ⟨mAt "Book" "choices", "choices", "Book.choices", defArgs s_Book_choices, defBody s_Book_choices, defScope s_Book_choices, [], []⟩
def dd_Book_eq : DefA := ⟨mAt "Book" "__eq__", "__eq__", "Book.__eq__", defArgs s_Book_eq, defBody s_Book_eq, defScope s_Book_eq, [], []⟩
def dd_Book_with_bars : DefA := ⟨mAt "Book" "with_bars", "with_bars", "Book.with_bars", defArgs s_Book_with_bars, defBody s_Book_with_bars, defScope s_Book_with_bars, [], []⟩
def dd_law_begun : DefA := ⟨gAt "_law_begun", "_law_begun", "_law_begun", defArgs s_law_begun, defBody s_law_begun, defScope s_law_begun, [], []⟩
def dd_law_mixed : DefA := ⟨gAt "_law_mixed", "_law_mixed", "_law_mixed", defArgs s_law_mixed, defBody s_law_mixed, defScope s_law_mixed, [], []⟩
def dd_law_take : DefA := ⟨gAt "_law_take", "_law_take", "_law_take", defArgs s_law_take, defBody s_law_take, defScope s_law_take, [], []⟩
def dd_law_pick : DefA := ⟨gAt "_law_pick", "_law_pick", "_law_pick", defArgs s_law_pick, defBody s_law_pick, defScope s_law_pick, [], []⟩
def dd_law_shuffled : DefA := ⟨gAt "_law_shuffled", "_law_shuffled", "_law_shuffled", defArgs s_law_shuffled, defBody s_law_shuffled, defScope s_law_shuffled, [], []⟩
def dd_law_odd : DefA := ⟨gAt "_law_odd", "_law_odd", "_law_odd", defArgs s_law_odd, defBody s_law_odd, defScope s_law_odd, [], []⟩
def dd_law_all_bars : DefA := ⟨gAt "_law_all_bars", "_law_all_bars", "_law_all_bars", defArgs s_law_all_bars, defBody s_law_all_bars, defScope s_law_all_bars, [], []⟩
def dd_law_book : DefA := ⟨gAt "_law_book", "_law_book", "_law_book", defArgs s_law_book, defBody s_law_book, defScope s_law_book, [], []⟩
def dd_law_choices : DefA := ⟨gAt "_law_choices", "_law_choices", "_law_choices", defArgs s_law_choices, defBody s_law_choices, defScope s_law_choices, [], []⟩
def dd_law_any_fields : DefA := ⟨gAt "_law_any_fields", "_law_any_fields", "_law_any_fields", defArgs s_law_any_fields, defBody s_law_any_fields, defScope s_law_any_fields, [], []⟩
def dd_law_is_told : DefA := ⟨gAt "_law_is_told", "_law_is_told", "_law_is_told", defArgs s_law_is_told, defBody s_law_is_told, defScope s_law_is_told, [], []⟩
def dd_law_others : DefA := ⟨gAt "_law_others", "_law_others", "_law_others", defArgs s_law_others, defBody s_law_others, defScope s_law_others, [], []⟩
def dd_law_left_out_right : DefA := ⟨gAt "_law_left_out_right", "_law_left_out_right", "_law_left_out_right", defArgs s_law_left_out_right, defBody s_law_left_out_right, defScope s_law_left_out_right, [], []⟩
def dd_law_with_bars_right : DefA := ⟨gAt "_law_with_bars_right", "_law_with_bars_right", "_law_with_bars_right", defArgs s_law_with_bars_right, defBody s_law_with_bars_right, defScope s_law_with_bars_right, [], []⟩
def dd_law : DefA := ⟨gAt "law", "law", "law", defArgs s_law, defBody s_law, defScope s_law, [], []⟩
def fn : List DefA := [dd_is_one_of, dd_are_bars, dd_need_field, dd_Book_init, dd_Book_held, dd_Book_each, dd_Book_lifted, dd_Book_ends, dd_Book_works, dd_Book_bars, dd_Book_choices, dd_Book_eq, dd_Book_with_bars, dd_law_begun, dd_law_mixed, dd_law_take, dd_law_pick, dd_law_shuffled, dd_law_odd, dd_law_all_bars, dd_law_book, dd_law_choices, dd_law_any_fields, dd_law_is_told, dd_law_others, dd_law_left_out_right, dd_law_with_bars_right, dd_law]
def fa : List He.Fa := ([.free "abs", .free "all", .free "dict", .free "int", .free "isinstance", .free "len", .free "list", .free "min", .free "range", .free "repr", .free "set", .free "sorted", .free "str", .free "tuple", .glo "LifeError", .glo "BadBook", .glo "BARS", .glo "FAULTS", .glo "HELD", .glo "EACH", .glo "LIFTED", .glo "ENDS", .glo "WORKS", .glo "is_one_of", .glo "are_bars", .glo "need_field", .glo "Book", .glo "_law_begun", .glo "_law_mixed", .glo "_law_take"] : List He.Fa) ++ ([.glo "_law_pick", .glo "_law_shuffled", .glo "_law_odd", .glo "_law_all_bars", .glo "_law_book", .glo "_law_choices", .glo "_law_any_fields", .glo "_law_is_told", .glo "_law_others", .glo "_law_left_out_right", .glo "_law_with_bars_right", .glo "law", .cls "Book", .noat "Book" "b_held", .noat "Book" "b_each", .noat "Book" "b_lifted", .noat "Book" "b_ends", .noat "Book" "b_works", .noat "Book" "b_bars", .mkr "Book", .meth "Book" "choices", .meth "Book" "with_bars"] : List He.Fa)
def exB (K : PySem.W.Frag) : Bool := He.tupB K "BARS" ([.str "each-shorter", .str "each-use", .str "held-shorter", .str "held-use", .str "use-each", .str "use-held"] : List He.Dv) && (He.tupB K "FAULTS" ([.str "ended", .str "left", .str "missing", .str "strayed"] : List He.Dv) && (He.tupB K "HELD" ([.str "home", .str "now"] : List He.Dv) && (He.tupB K "EACH" ([.str "now", .str "program"] : List He.Dv) && (He.tupB K "LIFTED" ([.str "nothing", .str "kept"] : List He.Dv) && (He.tupB K "ENDS" ([.str "holder", .str "never", .str "scope"] : List He.Dv) && (He.tupB K "WORKS" ([.str "own", .str "same", .str "wait"] : List He.Dv) && (propB K "Book" "held" && (propB K "Book" "each" && (propB K "Book" "lifted" && (propB K "Book" "ends" && (propB K "Book" "works" && (propB K "Book" "bars" && (eqB K "Book" && (nfB K "Book" ["NoneType", "bool", "int", "str", "list", "tuple", "dict"] && (insB K "Book" ["NoneType", "bool", "int", "str", "list", "tuple", "dict"] && (tupAB K (kwAt (mAt "Book" "__init__") "bars" K) []))))))))))))))))
def tabs : List He.Tab := []
def lamd : List He.Defn := []
def Tx (K : PySem.W.Frag) (mg : Str → Option Value) : Prop := ∃ (w : World) (h : Heap), SaysH fa tabs lamd exB fn w h K ∧ K.In h ∧ h.Ns mainGlobals mg
section
variable {K : PySem.W.Frag} {mg : Str → Option Value}
theorem tx_more (T : Tx K mg) : exB K = true := by
  obtain ⟨w, h, c, X, G⟩ := T
  exact c.more
theorem m_abs (T : Tx K mg) : mg "abs" = none := by
  obtain ⟨w, h, c, X, G⟩ := T
  exact He.free_ok X G (c.x.t.d.fact 0 (f := .free "abs") rfl)
theorem m_all (T : Tx K mg) : mg "all" = none := by
  obtain ⟨w, h, c, X, G⟩ := T
  exact He.free_ok X G (c.x.t.d.fact 1 (f := .free "all") rfl)
theorem m_dict (T : Tx K mg) : mg "dict" = none := by
  obtain ⟨w, h, c, X, G⟩ := T
  exact He.free_ok X G (c.x.t.d.fact 2 (f := .free "dict") rfl)
theorem m_int (T : Tx K mg) : mg "int" = none := by
  obtain ⟨w, h, c, X, G⟩ := T
  exact He.free_ok X G (c.x.t.d.fact 3 (f := .free "int") rfl)
theorem m_isinstance (T : Tx K mg) : mg "isinstance" = none := by
  obtain ⟨w, h, c, X, G⟩ := T
  exact He.free_ok X G (c.x.t.d.fact 4 (f := .free "isinstance") rfl)
theorem m_len (T : Tx K mg) : mg "len" = none := by
  obtain ⟨w, h, c, X, G⟩ := T
  exact He.free_ok X G (c.x.t.d.fact 5 (f := .free "len") rfl)
theorem m_list (T : Tx K mg) : mg "list" = none := by
  obtain ⟨w, h, c, X, G⟩ := T
  exact He.free_ok X G (c.x.t.d.fact 6 (f := .free "list") rfl)
theorem m_min (T : Tx K mg) : mg "min" = none := by
  obtain ⟨w, h, c, X, G⟩ := T
  exact He.free_ok X G (c.x.t.d.fact 7 (f := .free "min") rfl)
theorem m_range (T : Tx K mg) : mg "range" = none := by
  obtain ⟨w, h, c, X, G⟩ := T
  exact He.free_ok X G (c.x.t.d.fact 8 (f := .free "range") rfl)
theorem m_repr (T : Tx K mg) : mg "repr" = none := by
  obtain ⟨w, h, c, X, G⟩ := T
  exact He.free_ok X G (c.x.t.d.fact 9 (f := .free "repr") rfl)
theorem m_set (T : Tx K mg) : mg "set" = none := by
  obtain ⟨w, h, c, X, G⟩ := T
  exact He.free_ok X G (c.x.t.d.fact 10 (f := .free "set") rfl)
theorem m_sorted (T : Tx K mg) : mg "sorted" = none := by
  obtain ⟨w, h, c, X, G⟩ := T
  exact He.free_ok X G (c.x.t.d.fact 11 (f := .free "sorted") rfl)
theorem m_str (T : Tx K mg) : mg "str" = none := by
  obtain ⟨w, h, c, X, G⟩ := T
  exact He.free_ok X G (c.x.t.d.fact 12 (f := .free "str") rfl)
theorem m_tuple (T : Tx K mg) : mg "tuple" = none := by
  obtain ⟨w, h, c, X, G⟩ := T
  exact He.free_ok X G (c.x.t.d.fact 13 (f := .free "tuple") rfl)
theorem g_LifeError (T : Tx K mg) : mg "LifeError" = some (.ref (He.ga K "LifeError")) := by
  obtain ⟨w, h, c, X, G⟩ := T
  exact He.glo_ok X G (c.x.t.d.fact 14 (f := .glo "LifeError") rfl)
theorem g_BadBook (T : Tx K mg) : mg "BadBook" = some (.ref (He.ga K "BadBook")) := by
  obtain ⟨w, h, c, X, G⟩ := T
  exact He.glo_ok X G (c.x.t.d.fact 15 (f := .glo "BadBook") rfl)
theorem g_BARS (T : Tx K mg) : mg "BARS" = some (.ref (He.ga K "BARS")) := by
  obtain ⟨w, h, c, X, G⟩ := T
  exact He.glo_ok X G (c.x.t.d.fact 16 (f := .glo "BARS") rfl)
theorem g_FAULTS (T : Tx K mg) : mg "FAULTS" = some (.ref (He.ga K "FAULTS")) := by
  obtain ⟨w, h, c, X, G⟩ := T
  exact He.glo_ok X G (c.x.t.d.fact 17 (f := .glo "FAULTS") rfl)
theorem g_HELD (T : Tx K mg) : mg "HELD" = some (.ref (He.ga K "HELD")) := by
  obtain ⟨w, h, c, X, G⟩ := T
  exact He.glo_ok X G (c.x.t.d.fact 18 (f := .glo "HELD") rfl)
theorem g_EACH (T : Tx K mg) : mg "EACH" = some (.ref (He.ga K "EACH")) := by
  obtain ⟨w, h, c, X, G⟩ := T
  exact He.glo_ok X G (c.x.t.d.fact 19 (f := .glo "EACH") rfl)
theorem g_LIFTED (T : Tx K mg) : mg "LIFTED" = some (.ref (He.ga K "LIFTED")) := by
  obtain ⟨w, h, c, X, G⟩ := T
  exact He.glo_ok X G (c.x.t.d.fact 20 (f := .glo "LIFTED") rfl)
theorem g_ENDS (T : Tx K mg) : mg "ENDS" = some (.ref (He.ga K "ENDS")) := by
  obtain ⟨w, h, c, X, G⟩ := T
  exact He.glo_ok X G (c.x.t.d.fact 21 (f := .glo "ENDS") rfl)
theorem g_WORKS (T : Tx K mg) : mg "WORKS" = some (.ref (He.ga K "WORKS")) := by
  obtain ⟨w, h, c, X, G⟩ := T
  exact He.glo_ok X G (c.x.t.d.fact 22 (f := .glo "WORKS") rfl)
theorem g_is_one_of (T : Tx K mg) : mg "is_one_of" = some (.ref (He.ga K "is_one_of")) := by
  obtain ⟨w, h, c, X, G⟩ := T
  exact He.glo_ok X G (c.x.t.d.fact 23 (f := .glo "is_one_of") rfl)
theorem g_are_bars (T : Tx K mg) : mg "are_bars" = some (.ref (He.ga K "are_bars")) := by
  obtain ⟨w, h, c, X, G⟩ := T
  exact He.glo_ok X G (c.x.t.d.fact 24 (f := .glo "are_bars") rfl)
theorem g_need_field (T : Tx K mg) : mg "need_field" = some (.ref (He.ga K "need_field")) := by
  obtain ⟨w, h, c, X, G⟩ := T
  exact He.glo_ok X G (c.x.t.d.fact 25 (f := .glo "need_field") rfl)
theorem g_Book (T : Tx K mg) : mg "Book" = some (.ref (He.ga K "Book")) := by
  obtain ⟨w, h, c, X, G⟩ := T
  exact He.glo_ok X G (c.x.t.d.fact 26 (f := .glo "Book") rfl)
theorem g_law_begun (T : Tx K mg) : mg "_law_begun" = some (.ref (He.ga K "_law_begun")) := by
  obtain ⟨w, h, c, X, G⟩ := T
  exact He.glo_ok X G (c.x.t.d.fact 27 (f := .glo "_law_begun") rfl)
theorem g_law_mixed (T : Tx K mg) : mg "_law_mixed" = some (.ref (He.ga K "_law_mixed")) := by
  obtain ⟨w, h, c, X, G⟩ := T
  exact He.glo_ok X G (c.x.t.d.fact 28 (f := .glo "_law_mixed") rfl)
theorem g_law_take (T : Tx K mg) : mg "_law_take" = some (.ref (He.ga K "_law_take")) := by
  obtain ⟨w, h, c, X, G⟩ := T
  exact He.glo_ok X G (c.x.t.d.fact 29 (f := .glo "_law_take") rfl)
theorem g_law_pick (T : Tx K mg) : mg "_law_pick" = some (.ref (He.ga K "_law_pick")) := by
  obtain ⟨w, h, c, X, G⟩ := T
  exact He.glo_ok X G (c.x.t.d.fact 30 (f := .glo "_law_pick") rfl)
theorem g_law_shuffled (T : Tx K mg) : mg "_law_shuffled" = some (.ref (He.ga K "_law_shuffled")) := by
  obtain ⟨w, h, c, X, G⟩ := T
  exact He.glo_ok X G (c.x.t.d.fact 31 (f := .glo "_law_shuffled") rfl)
theorem g_law_odd (T : Tx K mg) : mg "_law_odd" = some (.ref (He.ga K "_law_odd")) := by
  obtain ⟨w, h, c, X, G⟩ := T
  exact He.glo_ok X G (c.x.t.d.fact 32 (f := .glo "_law_odd") rfl)
theorem g_law_all_bars (T : Tx K mg) : mg "_law_all_bars" = some (.ref (He.ga K "_law_all_bars")) := by
  obtain ⟨w, h, c, X, G⟩ := T
  exact He.glo_ok X G (c.x.t.d.fact 33 (f := .glo "_law_all_bars") rfl)
theorem g_law_book (T : Tx K mg) : mg "_law_book" = some (.ref (He.ga K "_law_book")) := by
  obtain ⟨w, h, c, X, G⟩ := T
  exact He.glo_ok X G (c.x.t.d.fact 34 (f := .glo "_law_book") rfl)
theorem g_law_choices (T : Tx K mg) : mg "_law_choices" = some (.ref (He.ga K "_law_choices")) := by
  obtain ⟨w, h, c, X, G⟩ := T
  exact He.glo_ok X G (c.x.t.d.fact 35 (f := .glo "_law_choices") rfl)
theorem g_law_any_fields (T : Tx K mg) : mg "_law_any_fields" = some (.ref (He.ga K "_law_any_fields")) := by
  obtain ⟨w, h, c, X, G⟩ := T
  exact He.glo_ok X G (c.x.t.d.fact 36 (f := .glo "_law_any_fields") rfl)
theorem g_law_is_told (T : Tx K mg) : mg "_law_is_told" = some (.ref (He.ga K "_law_is_told")) := by
  obtain ⟨w, h, c, X, G⟩ := T
  exact He.glo_ok X G (c.x.t.d.fact 37 (f := .glo "_law_is_told") rfl)
theorem g_law_others (T : Tx K mg) : mg "_law_others" = some (.ref (He.ga K "_law_others")) := by
  obtain ⟨w, h, c, X, G⟩ := T
  exact He.glo_ok X G (c.x.t.d.fact 38 (f := .glo "_law_others") rfl)
theorem g_law_left_out_right (T : Tx K mg) : mg "_law_left_out_right" = some (.ref (He.ga K "_law_left_out_right")) := by
  obtain ⟨w, h, c, X, G⟩ := T
  exact He.glo_ok X G (c.x.t.d.fact 39 (f := .glo "_law_left_out_right") rfl)
theorem g_law_with_bars_right (T : Tx K mg) : mg "_law_with_bars_right" = some (.ref (He.ga K "_law_with_bars_right")) := by
  obtain ⟨w, h, c, X, G⟩ := T
  exact He.glo_ok X G (c.x.t.d.fact 40 (f := .glo "_law_with_bars_right") rfl)
theorem g_law (T : Tx K mg) : mg "law" = some (.ref (He.ga K "law")) := by
  obtain ⟨w, h, c, X, G⟩ := T
  exact He.glo_ok X G (c.x.t.d.fact 41 (f := .glo "law") rfl)
theorem cls_Book (T : Tx K mg) : Cls K (He.ga K "Book") := by
  obtain ⟨w, h, c, X, G⟩ := T
  exact He.cls_ok (c.x.t.d.fact 42 (f := .cls "Book") rfl)
theorem na_Book_b_held (T : Tx K mg) : NoAttr K (He.ga K "Book") "b_held" := by
  obtain ⟨w, h, c, X, G⟩ := T
  exact He.noat_ok (c.x.t.d.fact 43 (f := .noat "Book" "b_held") rfl)
theorem na_Book_b_each (T : Tx K mg) : NoAttr K (He.ga K "Book") "b_each" := by
  obtain ⟨w, h, c, X, G⟩ := T
  exact He.noat_ok (c.x.t.d.fact 44 (f := .noat "Book" "b_each") rfl)
theorem na_Book_b_lifted (T : Tx K mg) : NoAttr K (He.ga K "Book") "b_lifted" := by
  obtain ⟨w, h, c, X, G⟩ := T
  exact He.noat_ok (c.x.t.d.fact 45 (f := .noat "Book" "b_lifted") rfl)
theorem na_Book_b_ends (T : Tx K mg) : NoAttr K (He.ga K "Book") "b_ends" := by
  obtain ⟨w, h, c, X, G⟩ := T
  exact He.noat_ok (c.x.t.d.fact 46 (f := .noat "Book" "b_ends") rfl)
theorem na_Book_b_works (T : Tx K mg) : NoAttr K (He.ga K "Book") "b_works" := by
  obtain ⟨w, h, c, X, G⟩ := T
  exact He.noat_ok (c.x.t.d.fact 47 (f := .noat "Book" "b_works") rfl)
theorem na_Book_b_bars (T : Tx K mg) : NoAttr K (He.ga K "Book") "b_bars" := by
  obtain ⟨w, h, c, X, G⟩ := T
  exact He.noat_ok (c.x.t.d.fact 48 (f := .noat "Book" "b_bars") rfl)
theorem mk_Book (T : Tx K mg) : Mk K (He.ga K "Book") (mAt "Book" "__init__" K) := by
  obtain ⟨w, h, c, X, G⟩ := T
  exact He.mkr_ok (c.x.t.d.fact 49 (f := .mkr "Book") rfl)
theorem me_Book_choices (T : Tx K mg) : Meth K (He.ga K "Book") "choices" (mAt "Book" "choices" K) := by
  obtain ⟨w, h, c, X, G⟩ := T
  exact He.meth_ok (c.x.t.d.fact 50 (f := .meth "Book" "choices") rfl)
theorem me_Book_with_bars (T : Tx K mg) : Meth K (He.ga K "Book") "with_bars" (mAt "Book" "with_bars" K) := by
  obtain ⟨w, h, c, X, G⟩ := T
  exact He.meth_ok (c.x.t.d.fact 51 (f := .meth "Book" "with_bars") rfl)
theorem d_is_one_of (T : Tx K mg) : ∃ fd, FunD K "is_one_of" "is_one_of" (defArgs s_is_one_of) (defBody s_is_one_of) (defScope s_is_one_of) (dd_is_one_of.dvs K) (dd_is_one_of.kws K) (gAt "is_one_of" K) fd := by
  obtain ⟨w, h, c, X, G⟩ := T
  exact c.def_ 0 (d := dd_is_one_of) rfl
theorem d_are_bars (T : Tx K mg) : ∃ fd, FunD K "are_bars" "are_bars" (defArgs s_are_bars) (defBody s_are_bars) (defScope s_are_bars) (dd_are_bars.dvs K) (dd_are_bars.kws K) (gAt "are_bars" K) fd := by
  obtain ⟨w, h, c, X, G⟩ := T
  exact c.def_ 1 (d := dd_are_bars) rfl
theorem d_need_field (T : Tx K mg) : ∃ fd, FunD K "need_field" "need_field" (defArgs s_need_field) (defBody s_need_field) (defScope s_need_field) (dd_need_field.dvs K) (dd_need_field.kws K) (gAt "need_field" K) fd := by
  obtain ⟨w, h, c, X, G⟩ := T
  exact c.def_ 2 (d := dd_need_field) rfl
theorem d_Book_init (T : Tx K mg) : ∃ fd, FunD K "__init__" "Book.__init__" (defArgs s_Book_init) (defBody s_Book_init) (defScope s_Book_init) (dd_Book_init.dvs K) (dd_Book_init.kws K) (mAt "Book" "__init__" K) fd := by
  obtain ⟨w, h, c, X, G⟩ := T
  exact c.def_ 3 (d := dd_Book_init) rfl
theorem d_Book_held (T : Tx K mg) : ∃ fd, FunD K "held" "Book.held" (defArgs s_Book_held) (defBody s_Book_held) (defScope s_Book_held) (dd_Book_held.dvs K) (dd_Book_held.kws K) (pAt "Book" "held" K) fd := by
  obtain ⟨w, h, c, X, G⟩ := T
  exact c.def_ 4 (d := dd_Book_held) rfl
theorem d_Book_each (T : Tx K mg) : ∃ fd, FunD K "each" "Book.each" (defArgs s_Book_each) (defBody s_Book_each) (defScope s_Book_each) (dd_Book_each.dvs K) (dd_Book_each.kws K) (pAt "Book" "each" K) fd := by
  obtain ⟨w, h, c, X, G⟩ := T
  exact c.def_ 5 (d := dd_Book_each) rfl
theorem d_Book_lifted (T : Tx K mg) : ∃ fd, FunD K "lifted" "Book.lifted" (defArgs s_Book_lifted) (defBody s_Book_lifted) (defScope s_Book_lifted) (dd_Book_lifted.dvs K) (dd_Book_lifted.kws K) (pAt "Book" "lifted" K) fd := by
  obtain ⟨w, h, c, X, G⟩ := T
  exact c.def_ 6 (d := dd_Book_lifted) rfl
theorem d_Book_ends (T : Tx K mg) : ∃ fd, FunD K "ends" "Book.ends" (defArgs s_Book_ends) (defBody s_Book_ends) (defScope s_Book_ends) (dd_Book_ends.dvs K) (dd_Book_ends.kws K) (pAt "Book" "ends" K) fd := by
  obtain ⟨w, h, c, X, G⟩ := T
  exact c.def_ 7 (d := dd_Book_ends) rfl
theorem d_Book_works (T : Tx K mg) : ∃ fd, FunD K "works" "Book.works" (defArgs s_Book_works) (defBody s_Book_works) (defScope s_Book_works) (dd_Book_works.dvs K) (dd_Book_works.kws K) (pAt "Book" "works" K) fd := by
  obtain ⟨w, h, c, X, G⟩ := T
  exact c.def_ 8 (d := dd_Book_works) rfl
theorem d_Book_bars (T : Tx K mg) : ∃ fd, FunD K "bars" "Book.bars" (defArgs s_Book_bars) (defBody s_Book_bars) (defScope s_Book_bars) (dd_Book_bars.dvs K) (dd_Book_bars.kws K) (pAt "Book" "bars" K) fd := by
  obtain ⟨w, h, c, X, G⟩ := T
  exact c.def_ 9 (d := dd_Book_bars) rfl
theorem d_Book_choices (T : Tx K mg) : ∃ fd, FunD K "choices" "Book.choices" (defArgs s_Book_choices) (defBody s_Book_choices) (defScope s_Book_choices) (dd_Book_choices.dvs K) (dd_Book_choices.kws K) (mAt "Book" "choices" K) fd := by
  obtain ⟨w, h, c, X, G⟩ := T
  exact c.def_ 10 (d := dd_Book_choices) rfl
theorem d_Book_eq (T : Tx K mg) : ∃ fd, FunD K "__eq__" "Book.__eq__" (defArgs s_Book_eq) (defBody s_Book_eq) (defScope s_Book_eq) (dd_Book_eq.dvs K) (dd_Book_eq.kws K) (mAt "Book" "__eq__" K) fd := by
  obtain ⟨w, h, c, X, G⟩ := T
  exact c.def_ 11 (d := dd_Book_eq) rfl
theorem d_Book_with_bars (T : Tx K mg) : ∃ fd, FunD K "with_bars" "Book.with_bars" (defArgs s_Book_with_bars) (defBody s_Book_with_bars) (defScope s_Book_with_bars) (dd_Book_with_bars.dvs K) (dd_Book_with_bars.kws K) (mAt "Book" "with_bars" K) fd := by
  obtain ⟨w, h, c, X, G⟩ := T
  exact c.def_ 12 (d := dd_Book_with_bars) rfl
theorem d_law_begun (T : Tx K mg) : ∃ fd, FunD K "_law_begun" "_law_begun" (defArgs s_law_begun) (defBody s_law_begun) (defScope s_law_begun) (dd_law_begun.dvs K) (dd_law_begun.kws K) (gAt "_law_begun" K) fd := by
  obtain ⟨w, h, c, X, G⟩ := T
  exact c.def_ 13 (d := dd_law_begun) rfl
theorem d_law_mixed (T : Tx K mg) : ∃ fd, FunD K "_law_mixed" "_law_mixed" (defArgs s_law_mixed) (defBody s_law_mixed) (defScope s_law_mixed) (dd_law_mixed.dvs K) (dd_law_mixed.kws K) (gAt "_law_mixed" K) fd := by
  obtain ⟨w, h, c, X, G⟩ := T
  exact c.def_ 14 (d := dd_law_mixed) rfl
theorem d_law_take (T : Tx K mg) : ∃ fd, FunD K "_law_take" "_law_take" (defArgs s_law_take) (defBody s_law_take) (defScope s_law_take) (dd_law_take.dvs K) (dd_law_take.kws K) (gAt "_law_take" K) fd := by
  obtain ⟨w, h, c, X, G⟩ := T
  exact c.def_ 15 (d := dd_law_take) rfl
theorem d_law_pick (T : Tx K mg) : ∃ fd, FunD K "_law_pick" "_law_pick" (defArgs s_law_pick) (defBody s_law_pick) (defScope s_law_pick) (dd_law_pick.dvs K) (dd_law_pick.kws K) (gAt "_law_pick" K) fd := by
  obtain ⟨w, h, c, X, G⟩ := T
  exact c.def_ 16 (d := dd_law_pick) rfl
theorem d_law_shuffled (T : Tx K mg) : ∃ fd, FunD K "_law_shuffled" "_law_shuffled" (defArgs s_law_shuffled) (defBody s_law_shuffled) (defScope s_law_shuffled) (dd_law_shuffled.dvs K) (dd_law_shuffled.kws K) (gAt "_law_shuffled" K) fd := by
  obtain ⟨w, h, c, X, G⟩ := T
  exact c.def_ 17 (d := dd_law_shuffled) rfl
theorem d_law_odd (T : Tx K mg) : ∃ fd, FunD K "_law_odd" "_law_odd" (defArgs s_law_odd) (defBody s_law_odd) (defScope s_law_odd) (dd_law_odd.dvs K) (dd_law_odd.kws K) (gAt "_law_odd" K) fd := by
  obtain ⟨w, h, c, X, G⟩ := T
  exact c.def_ 18 (d := dd_law_odd) rfl
theorem d_law_all_bars (T : Tx K mg) : ∃ fd, FunD K "_law_all_bars" "_law_all_bars" (defArgs s_law_all_bars) (defBody s_law_all_bars) (defScope s_law_all_bars) (dd_law_all_bars.dvs K) (dd_law_all_bars.kws K) (gAt "_law_all_bars" K) fd := by
  obtain ⟨w, h, c, X, G⟩ := T
  exact c.def_ 19 (d := dd_law_all_bars) rfl
theorem d_law_book (T : Tx K mg) : ∃ fd, FunD K "_law_book" "_law_book" (defArgs s_law_book) (defBody s_law_book) (defScope s_law_book) (dd_law_book.dvs K) (dd_law_book.kws K) (gAt "_law_book" K) fd := by
  obtain ⟨w, h, c, X, G⟩ := T
  exact c.def_ 20 (d := dd_law_book) rfl
theorem d_law_choices (T : Tx K mg) : ∃ fd, FunD K "_law_choices" "_law_choices" (defArgs s_law_choices) (defBody s_law_choices) (defScope s_law_choices) (dd_law_choices.dvs K) (dd_law_choices.kws K) (gAt "_law_choices" K) fd := by
  obtain ⟨w, h, c, X, G⟩ := T
  exact c.def_ 21 (d := dd_law_choices) rfl
theorem d_law_any_fields (T : Tx K mg) : ∃ fd, FunD K "_law_any_fields" "_law_any_fields" (defArgs s_law_any_fields) (defBody s_law_any_fields) (defScope s_law_any_fields) (dd_law_any_fields.dvs K) (dd_law_any_fields.kws K) (gAt "_law_any_fields" K) fd := by
  obtain ⟨w, h, c, X, G⟩ := T
  exact c.def_ 22 (d := dd_law_any_fields) rfl
theorem d_law_is_told (T : Tx K mg) : ∃ fd, FunD K "_law_is_told" "_law_is_told" (defArgs s_law_is_told) (defBody s_law_is_told) (defScope s_law_is_told) (dd_law_is_told.dvs K) (dd_law_is_told.kws K) (gAt "_law_is_told" K) fd := by
  obtain ⟨w, h, c, X, G⟩ := T
  exact c.def_ 23 (d := dd_law_is_told) rfl
theorem d_law_others (T : Tx K mg) : ∃ fd, FunD K "_law_others" "_law_others" (defArgs s_law_others) (defBody s_law_others) (defScope s_law_others) (dd_law_others.dvs K) (dd_law_others.kws K) (gAt "_law_others" K) fd := by
  obtain ⟨w, h, c, X, G⟩ := T
  exact c.def_ 24 (d := dd_law_others) rfl
theorem d_law_left_out_right (T : Tx K mg) : ∃ fd, FunD K "_law_left_out_right" "_law_left_out_right" (defArgs s_law_left_out_right) (defBody s_law_left_out_right) (defScope s_law_left_out_right) (dd_law_left_out_right.dvs K) (dd_law_left_out_right.kws K) (gAt "_law_left_out_right" K) fd := by
  obtain ⟨w, h, c, X, G⟩ := T
  exact c.def_ 25 (d := dd_law_left_out_right) rfl
theorem d_law_with_bars_right (T : Tx K mg) : ∃ fd, FunD K "_law_with_bars_right" "_law_with_bars_right" (defArgs s_law_with_bars_right) (defBody s_law_with_bars_right) (defScope s_law_with_bars_right) (dd_law_with_bars_right.dvs K) (dd_law_with_bars_right.kws K) (gAt "_law_with_bars_right" K) fd := by
  obtain ⟨w, h, c, X, G⟩ := T
  exact c.def_ 26 (d := dd_law_with_bars_right) rfl
theorem d_law (T : Tx K mg) : ∃ fd, FunD K "law" "law" (defArgs s_law) (defBody s_law) (defScope s_law) (dd_law.dvs K) (dd_law.kws K) (gAt "law" K) fd := by
  obtain ⟨w, h, c, X, G⟩ := T
  exact c.def_ 27 (d := dd_law) rfl
theorem c_BARS (T : Tx K mg) (H : Hp) : SqT K H (He.ga K "BARS") (([.str "each-shorter", .str "each-use", .str "held-shorter", .str "held-use", .str "use-each", .str "use-held"] : List He.Dv).map (He.Dv.v K)) := He.tupB_ok (He.ba (tx_more T)).1 H
theorem c_FAULTS (T : Tx K mg) (H : Hp) : SqT K H (He.ga K "FAULTS") (([.str "ended", .str "left", .str "missing", .str "strayed"] : List He.Dv).map (He.Dv.v K)) := He.tupB_ok (He.ba (He.ba (tx_more T)).2).1 H
theorem c_HELD (T : Tx K mg) (H : Hp) : SqT K H (He.ga K "HELD") (([.str "home", .str "now"] : List He.Dv).map (He.Dv.v K)) := He.tupB_ok (He.ba (He.ba (He.ba (tx_more T)).2).2).1 H
theorem c_EACH (T : Tx K mg) (H : Hp) : SqT K H (He.ga K "EACH") (([.str "now", .str "program"] : List He.Dv).map (He.Dv.v K)) := He.tupB_ok (He.ba (He.ba (He.ba (He.ba (tx_more T)).2).2).2).1 H
theorem c_LIFTED (T : Tx K mg) (H : Hp) : SqT K H (He.ga K "LIFTED") (([.str "nothing", .str "kept"] : List He.Dv).map (He.Dv.v K)) := He.tupB_ok (He.ba (He.ba (He.ba (He.ba (He.ba (tx_more T)).2).2).2).2).1 H
theorem c_ENDS (T : Tx K mg) (H : Hp) : SqT K H (He.ga K "ENDS") (([.str "holder", .str "never", .str "scope"] : List He.Dv).map (He.Dv.v K)) := He.tupB_ok (He.ba (He.ba (He.ba (He.ba (He.ba (He.ba (tx_more T)).2).2).2).2).2).1 H
theorem c_WORKS (T : Tx K mg) (H : Hp) : SqT K H (He.ga K "WORKS") (([.str "own", .str "same", .str "wait"] : List He.Dv).map (He.Dv.v K)) := He.tupB_ok (He.ba (He.ba (He.ba (He.ba (He.ba (He.ba (He.ba (tx_more T)).2).2).2).2).2).2).1 H
theorem pr_Book_held (T : Tx K mg) : PropOf K (He.ga K "Book") "held" (mAt "Book" "held" K) (pAt "Book" "held" K) := propB_ok (He.ba (He.ba (He.ba (He.ba (He.ba (He.ba (He.ba (He.ba (tx_more T)).2).2).2).2).2).2).2).1
theorem pr_Book_each (T : Tx K mg) : PropOf K (He.ga K "Book") "each" (mAt "Book" "each" K) (pAt "Book" "each" K) := propB_ok (He.ba (He.ba (He.ba (He.ba (He.ba (He.ba (He.ba (He.ba (He.ba (tx_more T)).2).2).2).2).2).2).2).2).1
theorem pr_Book_lifted (T : Tx K mg) : PropOf K (He.ga K "Book") "lifted" (mAt "Book" "lifted" K) (pAt "Book" "lifted" K) := propB_ok (He.ba (He.ba (He.ba (He.ba (He.ba (He.ba (He.ba (He.ba (He.ba (He.ba (tx_more T)).2).2).2).2).2).2).2).2).2).1
theorem pr_Book_ends (T : Tx K mg) : PropOf K (He.ga K "Book") "ends" (mAt "Book" "ends" K) (pAt "Book" "ends" K) := propB_ok (He.ba (He.ba (He.ba (He.ba (He.ba (He.ba (He.ba (He.ba (He.ba (He.ba (He.ba (tx_more T)).2).2).2).2).2).2).2).2).2).2).1
theorem pr_Book_works (T : Tx K mg) : PropOf K (He.ga K "Book") "works" (mAt "Book" "works" K) (pAt "Book" "works" K) := propB_ok (He.ba (He.ba (He.ba (He.ba (He.ba (He.ba (He.ba (He.ba (He.ba (He.ba (He.ba (He.ba (tx_more T)).2).2).2).2).2).2).2).2).2).2).2).1
theorem pr_Book_bars (T : Tx K mg) : PropOf K (He.ga K "Book") "bars" (mAt "Book" "bars" K) (pAt "Book" "bars" K) := propB_ok (He.ba (He.ba (He.ba (He.ba (He.ba (He.ba (He.ba (He.ba (He.ba (He.ba (He.ba (He.ba (He.ba (tx_more T)).2).2).2).2).2).2).2).2).2).2).2).2).1
theorem eq_Book (T : Tx K mg) : eqB K "Book" = true := (He.ba (He.ba (He.ba (He.ba (He.ba (He.ba (He.ba (He.ba (He.ba (He.ba (He.ba (He.ba (He.ba (He.ba (tx_more T)).2).2).2).2).2).2).2).2).2).2).2).2).2).1
theorem nf_Book (T : Tx K mg) : nfB K "Book" ["NoneType", "bool", "int", "str", "list", "tuple", "dict"] = true := (He.ba (He.ba (He.ba (He.ba (He.ba (He.ba (He.ba (He.ba (He.ba (He.ba (He.ba (He.ba (He.ba (He.ba (He.ba (tx_more T)).2).2).2).2).2).2).2).2).2).2).2).2).2).2).1
theorem in_Book (T : Tx K mg) : insB K "Book" ["NoneType", "bool", "int", "str", "list", "tuple", "dict"] = true := (He.ba (He.ba (He.ba (He.ba (He.ba (He.ba (He.ba (He.ba (He.ba (He.ba (He.ba (He.ba (He.ba (He.ba (He.ba (He.ba (tx_more T)).2).2).2).2).2).2).2).2).2).2).2).2).2).2).2).1
theorem dt_Book_init (T : Tx K mg) (H : Hp) : SqT K H (kwAt (mAt "Book" "__init__") "bars" K) [] := tupAB_ok (vs := []) (He.ba (He.ba (He.ba (He.ba (He.ba (He.ba (He.ba (He.ba (He.ba (He.ba (He.ba (He.ba (He.ba (He.ba (He.ba (He.ba (tx_more T)).2).2).2).2).2).2).2).2).2).2).2).2).2).2).2).2 H
end
end HL

namespace HL
open PySem PySem.Spec PyProof.Rows L2

abbrev R : PySem.W.OpenRow := PySem.W.OpenLaw.row PySem.Challenge.rw_heldlives_k02_books_told
def loose0 : List Str := ["LifeError", "BadBook", "BARS", "FAULTS", "HELD", "EACH", "LIFTED", "ENDS", "WORKS", "is_one_of", "are_bars", "need_field", "Book", "_law_begun", "_law_mixed", "_law_take", "_law_pick", "_law_shuffled", "_law_odd", "_law_all_bars", "_law_book", "_law_choices", "_law_any_fields", "_law_is_told", "_law_others", "_law_left_out_right", "_law_with_bars_right"]
def loose : List Str := loose0
abbrev hk : PySem.W.Hook := hookH 7 fa tabs lamd exB fn
def ob (s : PySem.W.SharedT) : AlH := obsH 7 fa tabs lamd exB fn (HandSHeadRun.getT s)
theorem ob_eq (s : PySem.W.SharedT) : ob s = hk.obs s.abs := obsH_eq (HandSHeadRun.getT_eq s)
theorem run (w : World) : HandSHeadRun.RunEq R (PySem.W.view R.prog [30]) hk ob 6000 loose w := by
  intro os
  kernel_rfl
end HL

namespace HL
open PySem PySem.Spec PyProof.Rows L2

section
variable {P : Program} {w : World} {K : PySem.W.Frag} {mg : Str → Option Value} {base : Heap}
/-! ### the draws -/
def drawKv (lw lc : Addr) (r t : Int) : List (Key × V) := [(.inr "wide", .ref lw), (.inr "cells", .ref lc), (.inr "rest", .int r), (.inr "turn", .int t)]
theorem get_wide {H : Hp} {d lw lc : Addr} {r t : Int} (h : H d = some (.dK (drawKv lw lc r t))) : DGet H d (.str "wide") (some (.ref lw)) := DGet.k (k := .inr "wide") h
theorem get_cells {H : Hp} {d lw lc : Addr} {r t : Int} (h : H d = some (.dK (drawKv lw lc r t))) : DGet H d (.str "cells") (some (.ref lc)) := DGet.k (k := .inr "cells") h
theorem get_rest {H : Hp} {d lw lc : Addr} {r t : Int} (h : H d = some (.dK (drawKv lw lc r t))) : DGet H d (.str "rest") (some (.int r)) := DGet.k (k := .inr "rest") h
theorem get_turn {H : Hp} {d lw lc : Addr} {r t : Int} (h : H d = some (.dK (drawKv lw lc r t))) : DGet H d (.str "turn") (some (.int t)) := DGet.k (k := .inr "turn") h
theorem put_rest {H : Hp} {d lw lc : Addr} {r t z : Int} (h : H d = some (.dK (drawKv lw lc r t))) : DPut H d (.str "rest") (.int z) (upd H d (.dK (drawKv lw lc z t))) := DPut.k (k := .inr "rest") h (by show 4 < sizeLine; decide)
theorem put_turn {H : Hp} {d lw lc : Addr} {r t z : Int} (h : H d = some (.dK (drawKv lw lc r t))) : DPut H d (.str "turn") (.int z) (upd H d (.dK (drawKv lw lc r z))) := DPut.k (k := .inr "turn") h (by show 4 < sizeLine; decide)
def primes : List V := [.int 2147483629, .int 2147483587, .int 2147483579, .int 2147483563]
theorem primes_at {i : Nat} {x : V} (h : primes[i]? = some x) : ∃ p : Int, x = .int p ∧ 0 < p ∧ p < 2147483648 := by
  have m : x ∈ primes := List.mem_of_getElem? h
  simp only [primes, List.mem_cons, List.not_mem_nil, or_false] at m
  rcases m with rfl | rfl | rfl | rfl
  all_goals exact ⟨_, rfl, by decide, by decide⟩
theorem ints_at {ns : List Int} {i : Nat} {x : V} (h : (ns.map V.int)[i]? = some x) : ∃ n : Int, x = .int n ∧ n ∈ ns := by
  obtain ⟨n, hn, e⟩ := List.mem_map.mp (List.mem_of_getElem? h)
  exact ⟨n, e.symm, hn⟩
def spMixed : Sp := fun vs H Q _ => ∃ (d lw lc : Addr) (r t : Int) (cs : List Int), vs = [.ref d] ∧ 0 ≤ t ∧ t ≤ 1099511627776 ∧ H d = some (.dK (drawKv lw lc r t)) ∧ H lc = some (.lst (cs.map V.int)) ∧
  ∀ (n : Int) (H' : Hp), Same (upd H d (.dK (drawKv lw lc r (t + 1)))) H' → Q (.int n) H'
theorem has_mixed (T : Tx K mg) : Has P w K mg base "_law_mixed" 1 ["_law_draw"] spMixed := by
  refine has_of (k := 0) (g_law_mixed T) (d_law_mixed T) sc_law_mixed (fun _ _ _ _ _ _ us hl => match us, hl with | [_], _ => rfl) (fun vs H Q E h => ?_) (fun cdv A outer s H vs Q E hr h => ?_)
  · obtain ⟨d, lw, lc, r, t, cs, rfl, _⟩ := h
    rfl
  · obtain ⟨d, lw, lc, r, t, cs, rfl, ht0, ht1, hd, hc, k⟩ := h
    have hu := hu_of hr
    refine ⟨_, (pss_cons (ps_par (i := 1) (j := 2) (by rfl) sc_law_mixed.nd rfl rfl (by decide) rfl rfl (pa_cons (pe_op op_add (pe_dget hu (pv 0) pe_str (fun _ _ => rfl)) pe_int) (pa_cons pe_int pa_nil)) (by rfl)) (pss_cons (ps_dput hu (pv 0) pe_str (pv 1) rfl) (pss_cons (ps_for PassesOwn.never rfl (pi_list (pe_lst (pa_cons pe_int (pa_cons pe_int (pa_cons pe_int (pa_cons pe_int pa_nil)))))) (pg_name (i := 3) sc_law_mixed.nd rfl (Or.inl rfl)) (pss_cons (ps_set (i := 4) sc_law_mixed.nd rfl (Or.inl rfl) (pe_op op_add (pe_op op_mul pe_int (pv 1)) (pe_op op_fdiv (pv 3) pe_int))) (pss_cons (ps_for PassesOwn.never rfl (pi_list (pe_dget hu (pv 0) pe_str (fun _ _ => rfl))) (pg_name (i := 5) sc_law_mixed.nd rfl (Or.inl rfl)) (pss_one (ps_set (i := 4) sc_law_mixed.nd rfl (Or.inl rfl) (pe_op op_mod (pe_callTy call_int1 (by rfl) (m_int T) boot_int (pa_cons (pe_op op_add (pe_op op_add (pe_op op_mul (pv 4) pe_int) (pv 5)) (pv 1)) pa_nil)) (pv 3))))) (pss_one (ps_set (i := 2) sc_law_mixed.nd rfl (Or.inl rfl) (pe_op op_add (pe_op op_mul (pv 2) pe_int) (pe_op op_mod (pe_callTy call_int1 (by rfl) (m_int T) boot_int (pa_cons (pe_op op_pow (pv 4) pe_int) pa_nil)) (pv 3)))))))) (pss_one (ps_ret (pv 2)))))), ?_⟩
    refine ⟨_, rfl, d, _, rfl, get_turn hd, _, _, rfl, rfl, _, _, rfl, ?_⟩
    refine ⟨_, rfl, _, rfl, d, _, rfl, put_turn hd, ?_⟩
    have ncd : lc ≠ d := ne_of hc hd (by intro z; cases z)
    generalize hH1 : upd H d (.dK (drawKv lw lc r (t + 1))) = H1
    have h1d : H1 d = some (.dK (drawKv lw lc r (t + 1))) := by
      rw [← hH1]
      exact upd_same
    have h1c : H1 lc = some (.lst (cs.map V.int)) := by
      rw [← hH1, upd_ne ncd]
      exact hc
    refine ⟨by decide, fun l hl => ?_⟩
    have s2 : Same H1 (upd H1 l (.lst primes)) := same_new hl
    refine ⟨l, rfl, ⟨_, SqL.of upd_same⟩, for_list (K := K) (a := l) (xs := primes) (fun i σ H' => ∃ (f : Int) (p b c : Option V), σ = [some (.ref d), some (.int (t + 1)), some (.int f), p, b, c] ∧ H' = upd H1 l (.lst primes)) ⟨0, none, none, none, rfl, rfl⟩ ?_ ?_ ?_⟩
    · rintro i σ H' _ ⟨_, _, _, _, _, rfl⟩
      exact SqL.of upd_same
    · rintro i x σ H' hx ⟨f, p, b, c, rfl, rfl⟩
      obtain ⟨q, rfl, hq0, hq1⟩ := primes_at hx
      refine ⟨_, rfl, _, _, rfl, rfl, .inl ⟨by decide, by decide⟩, _, rfl, _, _, rfl, rfl, ⟨by decide, by decide⟩, _, _, rfl, rfl, ?_⟩
      have hb0 : (0 : Int) ≤ 61441 * (t + 1) + q / 19 ∧ 61441 * (t + 1) + q / 19 < 18446744073709551616 := by
        have := Int.ediv_nonneg (Int.le_of_lt hq0) (show (0 : Int) ≤ 19 by decide)
        have : q / 19 ≤ q := Int.ediv_le_self _ (Int.le_of_lt hq0)
        omega
      refine ⟨_, rfl, d, _, rfl, get_cells (s2 _ _ h1d), lc, rfl, ⟨_, SqL.of (s2 _ _ h1c)⟩, for_list (K := K) (a := lc) (xs := cs.map V.int) (fun i σ H' => ∃ (b : Int) (c : Option V), σ = [some (.ref d), some (.int (t + 1)), some (.int f), some (.int q), some (.int b), c] ∧ 0 ≤ b ∧ b < 18446744073709551616 ∧ H' = upd H1 l (.lst primes)) ⟨_, _, rfl, hb0.1, hb0.2, rfl⟩ ?_ ?_ ?_⟩
      · rintro i σ H' _ ⟨_, _, _, _, _, rfl⟩
        exact SqL.of (s2 _ _ h1c)
      · rintro i x σ H' hx ⟨b, c, rfl, hb1, hb2, rfl⟩
        obtain ⟨z, rfl, _⟩ := ints_at hx
        refine ⟨_, rfl, _, _, rfl, rfl, .inr ⟨by decide, by decide⟩, _, rfl, _, _, rfl, rfl, _, rfl, _, _, rfl, rfl, .inl ⟨_, rfl, ?_⟩⟩
        refine ⟨_, rfl, _, _, rfl, rfl, hq0, ?_⟩
        refine ⟨_, _, rfl, Int.emod_nonneg _ (by omega), ?_, rfl⟩
        have := Int.emod_lt_of_pos (b * 48271 + z + (t + 1)) hq0
        omega
      · rintro σ H' ⟨b, c, rfl, hb1, hb2, rfl⟩
        refine ⟨_, rfl, _, _, rfl, rfl, .inr ⟨by decide, by decide⟩, _, rfl, _, _, rfl, rfl, ⟨by decide, by decide, by show b.natAbs < 2 ^ 64; omega⟩, .inl ⟨_, rfl, ?_⟩⟩
        refine ⟨_, rfl, _, _, rfl, rfl, hq0, _, _, rfl, rfl, ?_⟩
        exact ⟨_, _, _, _, rfl, rfl⟩
    · rintro σ H' ⟨f, p, b, c, rfl, rfl⟩
      exact ⟨_, rfl, k _ _ (by rw [hH1]; exact s2)⟩

def spTakeC : Sp := fun vs H Q _ => ∃ (d lw lc : Addr) (r t : Int) (ws cs : List Int) (n : Int), vs = [.ref d, .int n] ∧ 0 < n ∧ n < 1073741824 ∧ 0 ≤ t ∧ t ≤ 1099511627776 ∧ H d = some (.dK (drawKv lw lc r t)) ∧
  H lw = some (.lst (ws.map V.int)) ∧ H lc = some (.lst (cs.map V.int)) ∧ lw ≠ lc ∧ ws.length ≤ 100 ∧
  ∀ (k r' t' : Int) (ws' : List Int) (H' : Hp), 0 ≤ k → k < n → 0 ≤ t' → t' ≤ t + 1 → ws'.length ≤ 100 → H' d = some (.dK (drawKv lw lc r' t')) → H' lw = some (.lst (ws'.map V.int)) → H' lc = some (.lst (cs.map V.int)) →
    (∀ b o, b ≠ d → b ≠ lw → H b = some o → H' b = some o) → Q (.int k) H'
theorem has_takeC (T : Tx K mg) : Has P w K mg base "_law_take" 2 ["_law_draw", "_law_size"] spTakeC := by
  have h_law_mixed : Has P w K mg base "_law_mixed" 1 ["_law_draw"] spMixed := has_mixed T
  refine has_of (k := 1) (g_law_take T) (d_law_take T) sc_law_take (fun _ _ _ _ _ _ us hl => match us, hl with | [_, _], _ => rfl) (fun vs H Q E h => ?_) (fun cdv A outer s H vs Q E hr h => ?_)
  · obtain ⟨d, lw, lc, r, t, ws, cs, n, rfl, _⟩ := h
    rfl
  · obtain ⟨d, lw, lc, r, t, ws, cs, n, rfl, hn0, hn1, ht0, ht1, hd, hw, hc, nwc, hl, k⟩ := h
    have hu := hu_of hr
    have nwd : lw ≠ d := ne_of hw hd (by intro z; cases z)
    have ncd : lc ≠ d := ne_of hc hd (by intro z; cases z)
    refine ⟨_, (Evl.pss_cut (ps_if (pt_cmpR op_eq (pe_dget hu (pv 0) pe_str (fun _ _ => rfl)) pe_int (nomark _)) (pss_one (ps_dput hu (pv 0) pe_str (pe_ifExp (pt_cmpR (op_neNil hr.units) (pe_dget hu (pv 0) pe_str (fun _ _ => rfl)) (pe_lst pa_nil) (nomark _)) (pe_bm PySem.F.plainAttrs_list PySem.F.slot_list_pop PySem.F.type_list_pop mt_popAt (pe_dget hu (pv 0) pe_str (fun _ _ => rfl)) (pa_cons pe_int pa_nil)) (pe_has h_law_mixed (hr.mono (by decide)) rfl (pa_cons (pv 0) pa_nil))) rfl)) pss_nil) (pss_cons (ps_set (i := 2) sc_law_take.nd rfl (Or.inl rfl) (pe_op op_mod (pe_callTy call_int1 (by rfl) (m_int T) boot_int (pa_cons (pe_dget hu (pv 0) pe_str (fun _ _ => rfl)) pa_nil)) (pv 1))) (pss_cons (ps_dput hu (pv 0) pe_str (pe_op op_fdiv (pe_dget hu (pv 0) pe_str (fun _ _ => rfl)) (pv 1)) rfl) (pss_one (ps_ret (pv 2)))))), ?_⟩
    refine ⟨fun σ' H' => σ' = [some (.ref d), some (.int n), none] ∧ ∃ (r' t' : Int) (ws' : List Int), 0 ≤ t' ∧ t' ≤ t + 1 ∧ ws'.length ≤ 100 ∧ H' d = some (.dK (drawKv lw lc r' t')) ∧ H' lw = some (.lst (ws'.map V.int)) ∧ H' lc = some (.lst (cs.map V.int)) ∧ ∀ b o, b ≠ d → b ≠ lw → H b = some o → H' b = some o, ?_, ?_⟩
    · refine ⟨_, rfl, d, _, rfl, get_rest hd, rfl, _, rfl, ?_⟩
      refine ite2 (fun _ => ?_) (fun _ => ⟨rfl, r, t, ws, ht0, by omega, hl, hd, hw, hc, fun b o _ _ e => e⟩)
      refine ⟨_, rfl, d, _, rfl, get_wide hd, by decide, fun l hl0 => ?_⟩
      have s1 : Same H (upd H l (.lst [])) := same_new hl0
      refine ⟨lw, l, _, rfl, rfl, SqL.of (s1 _ _ hw), SqL.of upd_same, _, rfl, ?_⟩
      cases ws with
      | nil =>
        refine iteF ⟨_, rfl, d, lw, lc, r, t, cs, rfl, ht0, ht1, s1 _ _ hd, s1 _ _ hc, fun n H' sm => ?_⟩
        have s2 : ∀ b o, b ≠ d → H b = some o → H' b = some o := fun b o nb e => sm b o (by rw [upd_ne nb]; exact s1 _ _ e)
        refine ⟨_, rfl, d, _, rfl, put_rest (sm _ _ upd_same), rfl, n, t + 1, [], by omega, by omega, by decide, upd_same, ?_, ?_, fun b o nb nw e => ?_⟩
        · rw [upd_ne nwd]
          exact s2 _ _ nwd hw
        · rw [upd_ne ncd]
          exact s2 _ _ ncd hc
        · rw [upd_ne nb]
          exact s2 _ _ nb e
      | cons z zs =>
        refine iteT ⟨_, rfl, d, _, rfl, get_wide (s1 _ _ hd), .inl ⟨rfl, _, SqL.of (s1 _ _ hw)⟩, lw, _, 0, 0, _, rfl, rfl, s1 _ _ hw, by decide, by decide, sIx_nat (i := 0) (by simp), rfl, ?_⟩
        refine ⟨_, rfl, d, _, rfl, put_rest (r := r) (t := t) (by rw [upd_ne nwd.symm]; exact s1 _ _ hd), rfl, z, t, zs, ht0, by omega, ?_, upd_same, ?_, ?_, fun b o nb nw e => ?_⟩
        · simp only [List.length_cons] at hl
          omega
        · rw [upd_ne nwd]
          exact upd_same
        · rw [upd_ne ncd, upd_ne nwc.symm]
          exact s1 _ _ hc
        · rw [upd_ne nb, upd_ne nw]
          exact s1 _ _ e
    · rintro σ' H' ⟨rfl, r', t', ws', h1, h2, h3, h4, h5, h6, h7⟩
      refine ⟨_, rfl, d, _, rfl, get_rest h4, .inl ⟨_, rfl, _, rfl, _, _, rfl, rfl, hn0, ?_⟩⟩
      refine ⟨_, rfl, d, _, rfl, get_rest h4, _, rfl, _, _, rfl, rfl, ⟨hn0, hn1⟩, _, rfl, d, _, rfl, put_rest h4, ?_⟩
      refine ⟨_, rfl, k _ _ _ ws' _ (Int.emod_nonneg _ (by omega)) (Int.emod_lt_of_pos _ hn0) h1 h2 h3 upd_same ?_ ?_ fun b o nb nw e => ?_⟩
      · rw [upd_ne nwd]
        exact h5
      · rw [upd_ne ncd]
        exact h6
      · rw [upd_ne nb]
        exact h7 b o nb nw e

/-! ### the draw, its content left open: n bounds its turns -/
def SDraw (n : Nat) (lw lc : Addr) : HO → Prop := fun o => ∃ r t : Int, 0 ≤ t ∧ t ≤ n ∧ o = .dK (drawKv lw lc r t)
def SInts : HO → Prop := fun o => ∃ ns : List Int, ns.length ≤ 100 ∧ o = .lst (ns.map V.int)
theorem flatD {n : Nat} {lw lc : Addr} : Flat (SDraw n lw lc) := fun o ⟨_, _, _, _, e⟩ => .inr ⟨_, e⟩
theorem flatI : Flat SInts := fun o ⟨_, _, e⟩ => .inl ⟨_, e⟩
def Dr (P : Program) (w : World) (n : Nat) (H : Hp) (d : Addr) : Prop := ∃ (m : Nat) (lw lc : Addr), m ≤ n ∧ lw ≠ d ∧ lc ≠ d ∧ lw ≠ lc ∧
  H d = some (some_ P w (SDraw m lw lc) d) ∧ H lw = some (some_ P w SInts lw) ∧ H lc = some (some_ P w SInts lc)
theorem Dr.mono {n m : Nat} {H : Hp} {d : Addr} (h : Dr P w n H d) (e : n ≤ m) : Dr P w m H d := by
  obtain ⟨k, lw, lc, h1, h⟩ := h
  exact ⟨k, lw, lc, Nat.le_trans h1 e, h⟩
theorem Dr.same {n : Nat} {H H' : Hp} {d : Addr} (h : Dr P w n H d) (e : Same H H') : Dr P w n H' d := by
  obtain ⟨k, lw, lc, h1, h2, h3, h4, h5, h6, h7⟩ := h
  exact ⟨k, lw, lc, h1, h2, h3, h4, e _ _ h5, e _ _ h6, e _ _ h7⟩
/-- all but the draw's own dict stays -/
def SmD (d : Addr) (H H' : Hp) : Prop := ∀ b o, b ≠ d → H b = some o → H' b = some o
theorem SmD.refl {d : Addr} {H : Hp} : SmD d H H := fun _ _ _ e => e
theorem SmD.trans {d : Addr} {H H1 H2 : Hp} (a : SmD d H H1) (b : SmD d H1 H2) : SmD d H H2 := fun c o n e => b c o n (a c o n e)
theorem SmD.of {d : Addr} {H H' : Hp} (e : Same H H') : SmD d H H' := fun b o _ h => e b o h
def spTake (P : Program) (w : World) : Sp := fun vs H Q _ => ∃ (n : Nat) (d : Addr) (z : Int), vs = [.ref d, .int z] ∧ 0 < z ∧ z < 1073741824 ∧ n < 1099511627776 ∧ Dr P w n H d ∧
  ∀ (k : Int) (H' : Hp), 0 ≤ k → k < z → SmD d H H' → Dr P w (n + 1) H' d → Q (.int k) H'
theorem has_take (T : Tx K mg) : Has P w K mg base "_law_take" 2 ["_law_draw", "_law_size"] (spTake P w) := by
  refine (has_takeC T).open.open.open.imp fun vs H Q E h => ?_
  obtain ⟨n, d, z, rfl, hz0, hz1, hn, ⟨m, lw, lc, hm, nwd, ncd, nwc, hd, hw, hc⟩, k⟩ := h
  refine ⟨rfl, d, SDraw m lw lc, SDraw (m + 1) lw lc, flatD, flatD, hd, fun o1 ⟨r, t, ht0, ht1, e1⟩ => ⟨rfl, lw, SInts, SInts, flatI, flatI, by rw [upd_ne nwd]; exact hw, fun o2 ⟨ws, hws, e2⟩ => ⟨rfl, lc, SInts, SInts, flatI, flatI, by rw [upd_ne nwc.symm, upd_ne ncd]; exact hc, fun o3 ⟨cs, hcs, e3⟩ => ?_⟩⟩⟩
  subst e1 e2 e3
  have at_d : upd (upd (upd H d (.dK (drawKv lw lc r t))) lw (.lst (ws.map V.int))) lc (.lst (cs.map V.int)) d = some (.dK (drawKv lw lc r t)) := by
    rw [upd_ne ncd.symm, upd_ne nwd.symm, upd_same]
  refine ⟨d, lw, lc, r, t, ws, cs, z, rfl, hz0, hz1, ht0, by omega, at_d, by rw [upd_ne nwc, upd_same], upd_same, nwc, hws, fun kk r' t' ws' H' k0 k1 t0 t1 hl hd' hw' hc' rest => ?_⟩
  refine ⟨_, ⟨cs, hcs, rfl⟩, hc', _, ⟨ws', hl, rfl⟩, by rw [upd_ne nwc]; exact hw', _, ⟨r', t', t0, by omega, rfl⟩, by rw [upd_ne nwd.symm, upd_ne ncd.symm]; exact hd', k _ _ k0 k1 (fun b o nb e => ?_) ?_⟩
  · rw [upd_ne nb]
    by_cases hb : b = lw
    · subst hb
      rw [upd_same, ← hw]
      exact e
    · rw [upd_ne hb]
      by_cases hb2 : b = lc
      · subst hb2
        rw [upd_same, ← hc]
        exact e
      · rw [upd_ne hb2]
        refine rest b o nb hb ?_
        rw [upd_ne hb2, upd_ne hb, upd_ne nb]
        exact e
  · refine ⟨m + 1, lw, lc, by omega, nwd, ncd, nwc, upd_same, ?_, ?_⟩
    · rw [upd_ne nwd, upd_same]
    · rw [upd_ne ncd, upd_ne nwc.symm, upd_same]

def spBegunC (K : PySem.W.Frag) : Sp := fun vs H Q _ => ∃ (a : Addr) (ns : List Int), vs = [.ref a] ∧ SqL K H a (ns.map V.int) ∧ ns.length ≤ 63 ∧
  ∀ (d lw lc : Addr) (ws cs : List Int) (H' : Hp), Same H H' → H d = none → lw ≠ lc → ws.length ≤ 100 → cs.length ≤ 100 → H' d = some (.dK (drawKv lw lc 0 0)) → H' lw = some (.lst (ws.map V.int)) → H' lc = some (.lst (cs.map V.int)) →
    H lw = none → H lc = none → Q (.ref d) H'
theorem has_begunC (T : Tx K mg) : Has P w K mg base "_law_begun" 1 ["_law_script"] (spBegunC K) := by
  refine has_of (k := 0) (g_law_begun T) (d_law_begun T) sc_law_begun (fun _ _ _ _ _ _ us hl => match us, hl with | [_], _ => rfl) (fun vs H Q E h => ?_) (fun cdv A outer s H vs Q E hr h => ?_)
  · obtain ⟨a, ns, rfl, _⟩ := h
    rfl
  · obtain ⟨a, ns, rfl, hS, hlen, k⟩ := h
    have hu := hu_of hr
    refine ⟨_, (pss_cons (ps_setLc (i := 1) (own := [("_law_cell", 2)]) (g := gName 2) (by rfl) sc_law_begun.nd rfl rfl (sw_true rfl rfl rfl (by decide +kernel)) (pi_list (pv 0)) (blkOk_by (own := [("_law_cell", 2)]) (N := N_law_begun) (sc := defScope s_law_begun) (by decide +kernel)) (fun _ _ _ _ _ => (pg_name (i := 2) sc_law_begun.nd rfl (Or.inl rfl))) (fun _ _ _ _ _ => (pts_one (pt_cmpR op_ge (pe_callB call_abs (by rfl) (m_abs T) boot_abs (pa_cons (pv 2) pa_nil)) (pe_op op_pow pe_int pe_int) (nomark _)))) (fun _ _ _ _ _ => (pe_op op_sub (pe_callB call_abs (by rfl) (m_abs T) boot_abs (pa_cons (pv 2) pa_nil)) (pe_op op_pow pe_int pe_int)))) (pss_one (ps_ret (pe_disp (pps_cons pe_str (pv 1) (pps_cons pe_str (pe_lc (own := [("_law_cell", 2)]) (g := gName 2) (tt := tYes) (by rfl) sc_law_begun.nd (pi_list (pv 0)) (blkOk_by (own := [("_law_cell", 2)]) (N := N_law_begun) (sc := defScope s_law_begun) (by decide +kernel)) (fun _ _ _ _ _ => (pg_name (i := 2) sc_law_begun.nd rfl (Or.inl rfl))) (fun _ _ _ _ _ => pts_nil) (fun _ _ _ _ _ => (pe_op op_mod (pe_callTy call_int1 (by rfl) (m_int T) boot_int (pa_cons (pe_callB call_abs (by rfl) (m_abs T) boot_abs (pa_cons (pv 2) pa_nil)) pa_nil)) pe_int))) (pps_cons pe_str pe_int (pps_cons pe_str pe_int pps_nil)))) (by rfl) (by rfl) (fun z => by cases z) (by decide))))), ?_⟩
    refine ⟨_, rfl, a, rfl, ⟨_, hS⟩, fun lw hlw => lc_list (K := K) (a := a) (xs := ns.map V.int) (fun i H' => ∃ acc : List Int, acc.length ≤ i ∧ H' = upd H lw (.lst (acc.map V.int))) ⟨[], Nat.le_refl _, rfl⟩ ?_ ?_ ?_⟩
    · rintro i H' _ ⟨acc, _, rfl⟩
      exact (same_new hlw).seq hS
    · rintro i x H' hi ⟨acc, hacc, rfl⟩
      obtain ⟨c, rfl, _⟩ := ints_at hi
      have hi2 : i < ns.length := by
        have q := (List.getElem?_eq_some_iff.mp hi).1
        rw [List.length_map] at q
        exact q
      refine ⟨rfl, ?_⟩
      refine ⟨_, rfl, _, rfl, _, _, rfl, rfl, ⟨by decide, by decide, by decide⟩, _, _, rfl, rfl, _, rfl, ?_⟩
      refine ite2 (fun _ => ?_) (fun _ => ⟨acc, by omega, rfl⟩)
      refine ⟨_, rfl, _, rfl, _, _, rfl, rfl, ⟨by decide, by decide, by decide⟩, _, _, rfl, rfl, _, upd_same, ?_, ?_⟩
      · rw [List.length_map]
        exact Nat.lt_of_le_of_lt (by omega : acc.length ≤ 63) (by decide)
      · refine ⟨acc ++ [(if c < 0 then -c else c) - 10 ^ Int.toNat 18], ?_, ?_⟩
        · rw [List.length_append, List.length_singleton]
          omega
        · rw [upd_upd, List.map_append]
          rfl
    · rintro H' ⟨ws, hws, rfl⟩
      rw [List.length_map] at hws
      intro d hd
      have nld : lw ≠ d := fun z => by
        rw [← z, upd_same] at hd
        cases hd
      have hd0 : H d = none := by
        rw [upd_ne nld.symm] at hd
        exact hd
      have s1 : Same H (upd (upd H lw (.lst (ws.map V.int))) d (.dK [])) := same_upd (same_new hlw) hd0
      refine ⟨_, rfl, _, rfl, a, rfl, ⟨_, s1.seq hS⟩, fun lc hlc => lc_list (K := K) (a := a) (xs := ns.map V.int) (fun i H' => ∃ acc : List Int, acc.length ≤ i ∧ H' = upd (upd (upd H lw (.lst (ws.map V.int))) d (.dK [])) lc (.lst (acc.map V.int))) ⟨[], Nat.le_refl _, rfl⟩ ?_ ?_ ?_⟩
      · rintro i H' _ ⟨acc, _, rfl⟩
        exact (same_new hlc).seq (s1.seq hS)
      · rintro i x H' hi ⟨acc, hacc, rfl⟩
        obtain ⟨c, rfl, _⟩ := ints_at hi
        have hi2 : i < ns.length := by
          have q := (List.getElem?_eq_some_iff.mp hi).1
          rw [List.length_map] at q
          exact q
        refine ⟨rfl, yes_ ⟨_, rfl, _, rfl, .inl ⟨_, rfl, _, _, rfl, rfl, (by show (0 : Int) < 2147483629; decide), _, upd_same, ?_, ?_⟩⟩⟩
        · rw [List.length_map]
          exact Nat.lt_of_le_of_lt (by omega : acc.length ≤ 63) (by decide)
        · refine ⟨acc ++ [(if c < 0 then -c else c) % 2147483629], ?_, ?_⟩
          · rw [List.length_append, List.length_singleton]
            omega
          · rw [upd_upd, List.map_append]
            rfl
      · rintro H' ⟨cs, hcs, rfl⟩
        rw [List.length_map] at hcs
        have ncd : lc ≠ d := fun z => by
          rw [z, upd_same] at hlc
          cases hlc
        have ncw : lc ≠ lw := fun z => by
          rw [z, upd_ne nld, upd_same] at hlc
          cases hlc
        have hc0 : H lc = none := by
          rw [upd_ne ncd, upd_ne ncw] at hlc
          exact hlc
        refine ⟨by rw [upd_ne ncd.symm, upd_same], [(.inr "wide", .ref lw), (.inr "cells", .ref lc), (.inr "rest", .int 0), (.inr "turn", .int 0)], rfl, (by show 4 ≤ 15; decide), ?_⟩
        refine k d lw lc ws cs _ (same_upd (same_upd s1 hc0) hd0) hd0 ncw.symm (by omega) (by omega) upd_same ?_ ?_ hlw hc0
        · rw [upd_ne nld, upd_ne ncw.symm, upd_ne nld, upd_same]
        · rw [upd_ne ncd, upd_same]
def spBegun (P : Program) (w : World) (K : PySem.W.Frag) : Sp := fun vs H Q _ => ∃ (a : Addr) (ns : List Int), vs = [.ref a] ∧ SqL K H a (ns.map V.int) ∧ ns.length ≤ 63 ∧ ∀ (d : Addr) (H' : Hp), Same H H' → H d = none → Dr P w 0 H' d → Q (.ref d) H'
theorem has_begun (T : Tx K mg) : Has P w K mg base "_law_begun" 1 ["_law_script"] (spBegun P w K) := by
  refine Has.close (Has.close (Has.close (has_begunC T) (fun vs H Q E h => h)) (fun vs H Q E h => h)) fun vs H Q E h => ?_
  obtain ⟨a, ns, rfl, hS, hlen, k⟩ := h
  refine ⟨a, ns, rfl, hS, hlen, fun d lw lc ws cs H' sm hd nwc hws hcs h1 h2 h3 hw0 hc0 => ?_⟩
  have nwd : lw ≠ d := ne_of h2 h1 (by intro z; cases z)
  have ncd : lc ≠ d := ne_of h3 h1 (by intro z; cases z)
  refine ⟨lc, SInts, _, flatI, ⟨cs, hcs, rfl⟩, h3, lw, SInts, _, flatI, ⟨ws, hws, rfl⟩, by rw [upd_ne nwc]; exact h2, d, SDraw 0 lw lc, _, flatD, ⟨0, 0, by decide, by decide, rfl⟩, by rw [upd_ne nwd.symm, upd_ne ncd.symm]; exact h1, ?_⟩
  refine k d _ (same_upd (same_upd (same_upd sm hc0) hw0) hd) hd ⟨0, lw, lc, Nat.le_refl _, nwd, ncd, nwc, upd_same, ?_, ?_⟩
  · rw [upd_ne nwd, upd_same]
  · rw [upd_ne ncd, upd_ne nwc.symm, upd_same]

theorem Dr.at_ {n : Nat} {H : Hp} {d b : Addr} {o : HO} (h : Dr P w n H d) (e : H b = some o) (ne : ∀ φ, o ≠ .ext φ) : b ≠ d := fun z => by
  obtain ⟨k, lw, lc, h1, h2, h3, h4, h5, h6, h7⟩ := h
  rw [z, h5] at e
  exact ne _ (Option.some.inj e).symm
theorem Dr.kp {n : Nat} {H H' : Hp} {d : Addr} (h : Dr P w n H d) (sm : SmD d H H') : Kp H H' := fun b o ne e => sm b o (h.at_ e ne) e
theorem Dr.live {n : Nat} {H : Hp} {d b : Addr} (h : Dr P w n H d) (e : H b = none) : b ≠ d := fun z => by
  obtain ⟨k, lw, lc, h1, h2, h3, h4, h5, h6, h7⟩ := h
  rw [z, h5] at e
  cases e
/-- a drawn item of a list, a drawn sign of a text -/
def spPick (P : Program) (w : World) (K : PySem.W.Frag) : Sp := fun vs H Q _ => ∃ (n : Nat) (d : Addr), n < 1099511627776 ∧ Dr P w n H d ∧
  ((∃ (p : Addr) (xs : List V), vs = [.ref d, .ref p] ∧ SqL K H p xs ∧ 0 < xs.length ∧ xs.length < 1073741824 ∧ ∀ (i : Nat) (v : V) (H' : Hp), xs[i]? = some v → SmD d H H' → Dr P w (n + 1) H' d → Q v H') ∨
   (∃ (z : Str), vs = [.ref d, .str z] ∧ 0 < z.length ∧ z.length < 1000000 ∧ ∀ (c : Nat) (H' : Hp), c ∈ z.cps.toList → SmD d H H' → Dr P w (n + 1) H' d → Q (.str ⟨#[c]⟩) H'))
theorem atI_of {α : Type} {xs : List α} {k : Int} (h0 : 0 ≤ k) (h1 : k < xs.length) : ∃ v, atI xs k = some v ∧ xs[k.toNat]? = some v := by
  obtain ⟨m, rfl⟩ : ∃ m : Nat, k = m := ⟨k.toNat, by omega⟩
  have lt : m < xs.length := by omega
  exact ⟨xs[m], atI_nat (List.getElem?_eq_getElem lt), List.getElem?_eq_getElem lt⟩
theorem has_pick (T : Tx K mg) : Has P w K mg base "_law_pick" 3 ["_law_draw", "_law_some"] (spPick P w K) := by
  have h_law_take : Has P w K mg base "_law_take" 2 ["_law_draw", "_law_size"] (spTake P w) := has_take T
  refine has_of (k := 2) (g_law_pick T) (d_law_pick T) sc_law_pick (fun _ _ _ _ _ _ us hl => match us, hl with | [_, _], _ => rfl) (fun vs H Q E h => ?_) (fun cdv A outer s H vs Q E hr h => ?_)
  · obtain ⟨n, d, _, _, ⟨p, xs, rfl, _⟩ | ⟨z, rfl, _⟩⟩ := h
    all_goals rfl
  · obtain ⟨n, d, hn, dr, h⟩ := h
    have hu := hu_of hr
    refine ⟨_, (pss_one (ps_ret (pe_ix ix_seq (pv 1) (pe_has h_law_take (hr.mono (by decide)) rfl (pa_cons (pv 0) (pa_cons (pe_callB call_len (by rfl) (m_len T) boot_len (pa_cons (pv 1) pa_nil)) pa_nil))) (fun _ _ => rfl)))), ?_⟩
    rcases h with ⟨p, xs, rfl, hS, h0, h1, k⟩ | ⟨z, rfl, h0, h1, k⟩
    · refine ⟨_, rfl, _, rfl, _, rfl, _, xs.length, rfl, .inl ⟨_, hS, rfl⟩, ?_⟩
      refine ⟨n, d, _, rfl, by omega, by omega, hn, dr, fun i H' i0 i1 sm dr' => ?_⟩
      obtain ⟨v, e1, e2⟩ := atI_of i0 i1
      exact .inl ⟨p, xs, i, v, rfl, rfl, (dr.kp sm).l hS, e1, k _ _ _ e2 sm dr'⟩
    · refine ⟨_, rfl, _, rfl, _, rfl, _, z.length, rfl, ⟨Nat.le_trans (Nat.le_of_lt h1) (by decide), rfl⟩, ?_⟩
      refine ⟨n, d, _, rfl, by omega, by omega, hn, dr, fun i H' i0 i1 sm dr' => ?_⟩
      have le : z.cps.toList.length = z.length := by
        unfold Str.length
        simp
      obtain ⟨v, e1, e2⟩ := atI_of (xs := z.cps.toList) i0 (by rw [le]; exact i1)
      exact .inr (.inr ⟨z, i, v, rfl, rfl, Nat.le_trans (Nat.le_of_lt h1) (by decide), e1, k _ _ (List.mem_of_getElem? e2) sm dr'⟩)
theorem erase_perm {α : Type} : ∀ (xs : List α) (i : Nat) (v : α), xs[i]? = some v → (v :: xs.eraseIdx i).Perm xs
  | [], i, v, h => by simp at h
  | x :: r, 0, v, h => by
    simp only [List.getElem?_cons_zero, Option.some.injEq] at h
    subst h
    exact List.Perm.refl _
  | x :: r, i + 1, v, h => by
    simp only [List.getElem?_cons_succ] at h
    exact (List.Perm.swap _ _ _).trans (List.Perm.cons x (erase_perm r i v h))
theorem Dr.put {n : Nat} {H : Hp} {d b : Addr} {o o' : HO} (h : Dr P w n H d) (e : H b = some o) (ne : ∀ φ, o ≠ .ext φ) : Dr P w n (upd H b o') d := by
  obtain ⟨k, lw, lc, h1, h2, h3, h4, h5, h6, h7⟩ := h
  have at_ : ∀ c φ, H c = some (.ext φ) → c ≠ b := fun c φ q z => by
    rw [z, e] at q
    exact ne _ (Option.some.inj q)
  exact ⟨k, lw, lc, h1, h2, h3, h4, by rw [upd_ne (at_ _ _ h5)]; exact h5, by rw [upd_ne (at_ _ _ h6)]; exact h6, by rw [upd_ne (at_ _ _ h7)]; exact h7⟩
/-- a new list of the same items -/
def spShuffled (P : Program) (w : World) (K : PySem.W.Frag) : Sp := fun vs H Q _ => ∃ (n : Nat) (d p : Addr) (xs : List V), vs = [.ref d, .ref p] ∧ n + xs.length < 1099511627776 ∧ Dr P w n H d ∧ SqL K H p xs ∧ xs.length ≤ 100000 ∧
  ∀ (l : Addr) (ys : List V) (H' : Hp), ys.Perm xs → H l = none → SmD d H H' → Dr P w (n + xs.length) H' d → H' l = some (.lst ys) → Q (.ref l) H'
theorem has_shuffled (T : Tx K mg) : Has P w K mg base "_law_shuffled" 3 ["_law_draw", "_law_some"] (spShuffled P w K) := by
  have h_law_take : Has P w K mg base "_law_take" 2 ["_law_draw", "_law_size"] (spTake P w) := has_take T
  refine has_of (k := 2) (g_law_shuffled T) (d_law_shuffled T) sc_law_shuffled (fun _ _ _ _ _ _ us hl => match us, hl with | [_, _], _ => rfl) (fun vs H Q E h => ?_) (fun cdv A outer s H vs Q E hr h => ?_)
  · obtain ⟨n, d, p, xs, rfl, _⟩ := h
    rfl
  · obtain ⟨n, d, p, xs, rfl, hn, dr, hS, hz, k⟩ := h
    have hu := hu_of hr
    refine ⟨_, (pss_cons (ps_par (i := 2) (j := 3) (by rfl) sc_law_shuffled.nd rfl rfl (by decide) rfl rfl (pa_cons (pe_callTy call_list_of (by rfl) (m_list T) boot_list (pa_cons (pv 1) pa_nil)) (pa_cons (pe_lst pa_nil) pa_nil)) (by rfl)) (pss_cons (ps_while PassesOwn.never (pt_cmpR (op_neNil hr.units) (pv 2) (pe_lst pa_nil) (nomark _)) (pss_one (ps_expr (pe_bm PySem.F.plainAttrs_list PySem.F.slot_list_append PySem.F.type_list_append mt_append (pv 3) (pa_cons (pe_bm PySem.F.plainAttrs_list PySem.F.slot_list_pop PySem.F.type_list_pop mt_popAt (pv 2) (pa_cons (pe_has h_law_take (hr.mono (by decide)) rfl (pa_cons (pv 0) (pa_cons (pe_callB call_len_seq (by rfl) (m_len T) boot_len (pa_cons (pv 2) pa_nil)) pa_nil))) pa_nil)) pa_nil))))) (pss_one (ps_ret (pv 3))))), ?_⟩
    refine ⟨_, rfl, p, _, rfl, .inl hS, fun l hl => ⟨by decide, fun f hf => ⟨_, _, rfl, ?_⟩⟩⟩
    have nlf : f ≠ l := fun z => by
      rw [z, upd_same] at hf
      cases hf
    have hf0 : H f = none := by
      rw [upd_ne nlf] at hf
      exact hf
    refine ⟨fun m σ H' => σ = [some (.ref d), some (.ref p), some (.ref l), some (.ref f)] ∧ ∃ ls fs : List V, ls.length = m ∧ m ≤ xs.length ∧ (ls ++ fs).Perm xs ∧ H' l = some (.lst ls) ∧ H' f = some (.lst fs) ∧ SmD d H H' ∧ Dr P w (n + (xs.length - m)) H' d, ⟨xs.length, rfl, xs, [], rfl, Nat.le_refl _, by simp, by rw [upd_ne nlf.symm, upd_same], upd_same, .of (same_upd (same_new hl) hf0), ?_⟩, ?_⟩
    · rw [Nat.sub_self]
      exact dr.same (same_upd (same_new hl) hf0)
    · rintro m σ H' ⟨rfl, ls, fs, hm, hmx, pm, h1, h2, sm, dr'⟩
      refine ⟨_, rfl, by decide, fun e he => ?_⟩
      have s1 : Same H' (upd H' e (.lst [])) := same_new he
      refine ⟨l, e, ls, rfl, rfl, SqL.of (s1 _ _ h1), SqL.of upd_same, _, rfl, ?_⟩
      cases ls with
      | nil =>
        refine iteF ⟨_, rfl, k f fs _ (by simpa using pm) hf0 (sm.trans (.of s1)) ?_ (s1 _ _ h2)⟩
        have e0 : m = 0 := by
          rw [← hm]
          rfl
        rw [e0] at dr'
        exact dr'.same s1
      | cons y ys =>
        refine iteT ⟨fun σ2 H2 => ∃ m', m' < m ∧ σ2 = [some (.ref d), some (.ref p), some (.ref l), some (.ref f)] ∧ ∃ ls fs : List V, ls.length = m' ∧ m' ≤ xs.length ∧ (ls ++ fs).Perm xs ∧ H2 l = some (.lst ls) ∧ H2 f = some (.lst fs) ∧ SmD d H H2 ∧ Dr P w (n + (xs.length - m')) H2 d, fun σ2 H2 q => q, ?_⟩
        have hm' : ys.length + 1 = m := hm
        refine ⟨_, rfl, .inl ⟨rfl, _, SqL.of (s1 _ _ h2)⟩, _, rfl, .inl ⟨rfl, _, SqL.of (s1 _ _ h1)⟩, _, rfl, _, rfl, l, _, rfl, .inl (SqL.of (s1 _ _ h1)), ?_⟩
        refine ⟨n + (xs.length - m), d, _, rfl, by simp only [List.length_cons]; omega, by simp only [List.length_cons]; omega, by omega, dr'.same s1, fun i H2 i0 i1 sm2 dr2 => ?_⟩
        have kp := (dr'.same s1).kp sm2
        have h1' := kp.lst (s1 _ _ h1)
        have h2' := kp.lst (s1 _ _ h2)
        obtain ⟨v, e1, e2⟩ := atI_of (xs := y :: ys) i0 i1
        have ei : i = ((i.toNat : Nat) : Int) := by omega
        have lt : i.toNat < (y :: ys).length := by omega
        refine ⟨l, _, i, i.toNat, v, rfl, rfl, h1', by omega, by omega, by rw [ei]; exact sIx_nat (by simpa using lt), e2, ?_⟩
        refine ⟨f, fs, v, rfl, rfl, by rw [upd_ne nlf]; exact h2', ?_, ?_⟩
        · have := pm.length_eq
          rw [List.length_append] at this
          exact Nat.lt_of_le_of_lt (by omega : fs.length ≤ 100000) (by decide)
        · have nld : l ≠ d := dr.live hl
          have nfd : f ≠ d := dr.live hf0
          refine ⟨ys.length, by omega, rfl, (y :: ys).eraseIdx i.toNat, fs ++ [v], ?_, by omega, ?_, by rw [upd_ne nlf.symm, upd_same], upd_same, ?_, ?_⟩
          · rw [List.length_eraseIdx, if_pos lt]
            rfl
          · refine List.Perm.trans ?_ pm
            have q1 := erase_perm _ _ _ e2
            refine List.Perm.trans ?_ (q1.append_right fs)
            rw [← List.append_assoc]
            refine (List.perm_append_comm).trans ?_
            simp
          · intro b o nb e
            rw [upd_ne (ne_of_none e hf0), upd_ne (ne_of_none e hl)]
            exact sm2 b o nb (s1 _ _ (sm b o nb e))
          · exact ((dr2.put h1' (fun _ z => by cases z)).put (by rw [upd_ne nlf]; exact h2') (fun _ z => by cases z)).mono (by omega)
end

end HL

namespace HL
open PySem PySem.Spec PyProof.Rows L2

section
variable {P : Program} {w : World} {K : PySem.W.Frag} {mg : Str → Option Value} {base : Heap}
/-! ### books -/
def spOneOf (K : PySem.W.Frag) : Sp := fun vs H Q _ => ∃ (v : V) (p : Addr) (ws : List Str), vs = [v, .ref p] ∧ SqT K H p (ws.map V.str) ∧
  ((∃ z : Str, v = .str z ∧ Q (.bl (decide (z ∈ ws))) H) ∨ (∃ t, TyX K H v t ∧ PySem.W.kitOne K t (.type "str") = some false ∧ Q (.bl false) H))
theorem has_oneOf (T : Tx K mg) : Has P w K mg base "is_one_of" 1 ["thing", "words"] (spOneOf K) := by
  refine has_of (k := 0) (g_is_one_of T) (d_is_one_of T) sc_is_one_of (fun _ _ _ _ _ _ us hl => match us, hl with | [_, _], _ => rfl) (fun vs H Q E h => ?_) (fun cdv A outer s H vs Q E hr h => ?_)
  · obtain ⟨v, p, ws, rfl, _⟩ := h
    rfl
  · obtain ⟨v, p, ws, rfl, hp, h⟩ := h
    refine ⟨_, (pss_one (ps_ret (pe_and (pe_callB call_isi (by rfl) (m_isinstance T) boot_isinstance (pa_cons (pv 0) (pa_cons (pe_bltn (v := .ty "str") (by rfl) (m_str T) boot_str rfl) pa_nil))) (pe_one (pe_cmpR op_in_seq (pv 0) (pv 1) rfl))))), ?_⟩
    rcases h with ⟨z, rfl, q⟩ | ⟨t, ty, kt, q⟩
    · refine ⟨_, rfl, _, _, _, _, true, rfl, .ty "str", .base (.str z), rfl, ?_⟩
      refine ⟨_, rfl, iteT ⟨_, rfl, _, rfl, p, _, rfl, .inr hp, rfl, flat_strs ws, ?_⟩⟩
      show Q (.bl (inV (.str z) (ws.map V.str))) H
      rw [inV_strs]
      exact q
    · exact ⟨_, rfl, _, _, _, _, false, rfl, .ty "str", ty, kt, _, rfl, iteF q⟩
def bars6 : List Str := ["each-shorter", "each-use", "held-shorter", "held-use", "use-each", "use-held"]
/-- rows of texts: right bars or not -/
def spBars (K : PySem.W.Frag) : Sp := fun vs H Q _ => ∃ (p : Addr) (zs : List Str), vs = [.ref p] ∧ (H p = some (.lst (zs.map V.str)) ∨ SqT K H p (zs.map V.str)) ∧ zs.length ≤ 1000 ∧
  ∀ H', Same H H' → Q (.bl (decide ((∀ z ∈ zs, z ∈ bars6) ∧ zs.Nodup))) H'
theorem mapkV (zs : List Str) : (zs.map Sum.inr : List Key).map kV = zs.map V.str := by
  rw [List.map_map]
  rfl
theorem nodup_inr (zs : List Str) : (zs.map Sum.inr : List Key).Nodup ↔ zs.Nodup := by
  unfold List.Nodup
  rw [List.pairwise_map]
  simp
theorem has_bars (T : Tx K mg) : Has P w K mg base "are_bars" 2 ["thing"] (spBars K) := by
  have h_is_one_of : Has P w K mg base "is_one_of" 1 ["thing", "words"] (spOneOf K) := has_oneOf T
  refine has_of (k := 1) (g_are_bars T) (d_are_bars T) sc_are_bars (fun _ _ _ _ _ _ us hl => match us, hl with | [_], _ => rfl) (fun vs H Q E h => ?_) (fun cdv A outer s H vs Q E hr h => ?_)
  · obtain ⟨p, zs, rfl, _⟩ := h
    rfl
  · obtain ⟨p, zs, rfl, hp, hz, k⟩ := h
    have hu := hu_of hr
    have hz2 : (zs.map V.str).length ≤ sizeLine := by
      rw [List.length_map]
      exact Nat.le_trans hz (by decide)
    have key : ∀ H' : Hp, Same H H' → ∀ (b1 : Bool), b1 = decide (∀ z ∈ zs, z ∈ bars6) → (b1 = false → Q (.bl false) H') ∧ (b1 = true → Q (.bl (decide (((met (zs.map Sum.inr : List Key)).length : Int) = (zs.length : Nat)))) H') := by
      intro H' sm b1 e
      have q := k H' sm
      refine ⟨fun e2 => ?_, fun e2 => ?_⟩
      · have ne : ¬ ((∀ z ∈ zs, z ∈ bars6) ∧ zs.Nodup) := fun h => by
          rw [e2] at e
          exact absurd h.1 (of_decide_eq_false e.symm)
        rw [decide_eq_false ne] at q
        exact q
      · have h1 : ∀ z ∈ zs, z ∈ bars6 := of_decide_eq_true (e.symm.trans e2)
        have h2 : (((met (zs.map Sum.inr : List Key)).length : Int) = (zs.length : Nat)) ↔ ((∀ z ∈ zs, z ∈ bars6) ∧ zs.Nodup) := by
          have m := met_nodup (zs.map Sum.inr : List Key)
          rw [List.length_map, nodup_inr] at m
          constructor
          · intro h
            exact ⟨h1, m.mp (by exact_mod_cast h)⟩
          · intro h
            exact_mod_cast m.mpr h.2
        rw [decide_eq_decide.mpr h2]
        exact q
    have all1 : ∀ ws : List Str, (((ws.map V.str).map (fun v => match v with | .str z => V.bl (decide (z ∈ bars6)) | _ => .non))) = (ws.map fun z => decide (z ∈ bars6)).map V.bl := fun ws => by
      rw [List.map_map, List.map_map]
      rfl
    have all2 : ∀ ws : List Str, (ws.map fun z => decide (z ∈ bars6)).all id = decide (∀ z ∈ ws, z ∈ bars6) := fun ws => by
      rw [List.all_map, Bool.eq_iff_iff, List.all_eq_true, decide_eq_true_iff]
      exact ⟨fun h z hz => of_decide_eq_true (h z hz), fun h z hz => decide_eq_true (h z hz)⟩
    rcases hp with hp | hp
    · refine ⟨_, (pss_cons (ps_if (PW.pt (pw_or (pt_not (pt_val (pe_callB call_isiT (by rfl) (m_isinstance T) boot_isinstance (pa_cons (pv 0) (pa_cons (pe_tup (pa_cons (pe_bltn (v := .ty "list") (by rfl) (m_list T) boot_list rfl) (pa_cons (pe_bltn (v := .ty "tuple") (by rfl) (m_tuple T) boot_tuple rfl) pa_nil))) pa_nil))))) (pw_or1 (pt_not (pt_val (pe_callB (cr_all rfl) (by rfl) (m_all T) boot_all (pa_cons (pe_lc (own := [("word", 1)]) (g := gName 1) (tt := tYes) (by rfl) sc_are_bars.nd (pi_list (pv 0)) (blkOk_by (own := [("word", 1)]) (N := N_are_bars) (sc := defScope s_are_bars) (by decide +kernel)) (fun _ _ _ _ _ => (pg_name (i := 1) sc_are_bars.nd rfl (Or.inl rfl))) (fun _ _ _ _ _ => pts_nil) (fun _ _ _ _ _ => (pe_has h_is_one_of (hr.mono (by decide)) rfl (pa_cons (pv 1) (pa_cons (pe_glob (v := .ref (He.ga K "BARS")) rfl (g_BARS T) rfl) pa_nil))))) pa_nil))))))) (pss_one (ps_ret pe_bl)) pss_nil) (pss_one (ps_ret (pe_cmpR op_eq (pe_lenSetK (by rfl) (m_len T) (by rfl) (m_set T) (pv 0)) (pe_callB call_len_seq (by rfl) (m_len T) boot_len (pa_cons (pv 0) pa_nil)) (nomark _))))), ?_⟩
      refine ⟨_, rfl, by decide, fun tp htp => ⟨_, tp, _, _, _, true, rfl, upd_same, .cons (.ty "list") (.cons (.ty "tuple") .nil), .base (.lst ((same_new htp) _ _ hp)), rfl, true, rfl, ?_⟩⟩
      refine iteF ⟨_, rfl, p, rfl, ⟨_, SqL.of ((same_new htp) _ _ hp)⟩, fun D hD => lcl_pure (fun _ => true) (fun v => match v with | .str z => V.bl (decide (z ∈ bars6)) | _ => .non) hD (SqL.of ((same_new htp) _ _ hp)) hz2 ?_ ?_⟩
      · intro i x H' Q' R hx sm q1 _
        obtain ⟨z, hz, rfl⟩ := List.mem_map.mp (List.mem_of_getElem? hx)
        exact ⟨rfl, yes_ ⟨_, rfl, _, _, bars6, rfl, c_BARS T H', .inl ⟨z, rfl, q1 rfl⟩⟩⟩
      · rw [filter_yes, all1]
        refine ⟨D, _, rfl, SqL.of upd_same, _, rfl, ?_⟩
        rw [all2]
        have sm : Same H (upd (upd H tp (.tup [.ty "list", .ty "tuple"])) D (.lst ((zs.map fun z => decide (z ∈ bars6)).map V.bl))) := (same_new htp).trans (same_new hD)
        obtain ⟨k1, k2⟩ := key _ sm _ rfl
        cases e : decide (∀ z ∈ zs, z ∈ bars6) with
        | false => exact iteT (k1 e)
        | true =>
          refine iteF ⟨_, rfl, p, _, rfl, .inl (by rw [mapkV]; exact SqL.of (sm _ _ hp)), by rw [List.length_map]; omega, _, rfl, p, _, rfl, .inl (SqL.of (sm _ _ hp)), ?_⟩
          rw [List.length_map]
          refine ⟨rfl, ?_⟩
          have q := k2 e
          rw [show decide (V.int ((met (zs.map Sum.inr : List Key)).length : Nat) = V.int (zs.length : Nat)) = decide (((met (zs.map Sum.inr : List Key)).length : Int) = (zs.length : Nat)) from decide_eq_decide.mpr ⟨fun z => V.int.inj z, fun z => by rw [z]⟩]
          exact q
    · refine ⟨_, (pss_cons (ps_if (PW.pt (pw_or (pt_not (pt_val (pe_callB call_isiT (by rfl) (m_isinstance T) boot_isinstance (pa_cons (pv 0) (pa_cons (pe_tup (pa_cons (pe_bltn (v := .ty "list") (by rfl) (m_list T) boot_list rfl) (pa_cons (pe_bltn (v := .ty "tuple") (by rfl) (m_tuple T) boot_tuple rfl) pa_nil))) pa_nil))))) (pw_or1 (pt_not (pt_val (pe_callB (cr_all rfl) (by rfl) (m_all T) boot_all (pa_cons (pe_lc (own := [("word", 1)]) (g := gName 1) (tt := tYes) (by rfl) sc_are_bars.nd (pi_tup (pv 0)) (blkOk_by (own := [("word", 1)]) (N := N_are_bars) (sc := defScope s_are_bars) (by decide +kernel)) (fun _ _ _ _ _ => (pg_name (i := 1) sc_are_bars.nd rfl (Or.inl rfl))) (fun _ _ _ _ _ => pts_nil) (fun _ _ _ _ _ => (pe_has h_is_one_of (hr.mono (by decide)) rfl (pa_cons (pv 1) (pa_cons (pe_glob (v := .ref (He.ga K "BARS")) rfl (g_BARS T) rfl) pa_nil))))) pa_nil))))))) (pss_one (ps_ret pe_bl)) pss_nil) (pss_one (ps_ret (pe_cmpR op_eq (pe_lenSetK (by rfl) (m_len T) (by rfl) (m_set T) (pv 0)) (pe_callB call_len_seq (by rfl) (m_len T) boot_len (pa_cons (pv 0) pa_nil)) (nomark _))))), ?_⟩
      refine ⟨_, rfl, by decide, fun tp htp => ⟨_, tp, _, _, _, true, rfl, upd_same, .cons (.ty "list") (.cons (.ty "tuple") .nil), ty_t (same_t (same_new htp) hp), rfl, true, rfl, ?_⟩⟩
      refine iteF ⟨_, rfl, p, rfl, ⟨_, same_t (same_new htp) hp⟩, fun D hD => lct_pure (fun _ => true) (fun v => match v with | .str z => V.bl (decide (z ∈ bars6)) | _ => .non) hD (same_t (same_new htp) hp) hz2 ?_ ?_⟩
      · intro i x H' Q' R hx sm q1 _
        obtain ⟨z, hz, rfl⟩ := List.mem_map.mp (List.mem_of_getElem? hx)
        exact ⟨rfl, yes_ ⟨_, rfl, _, _, bars6, rfl, c_BARS T H', .inl ⟨z, rfl, q1 rfl⟩⟩⟩
      · rw [filter_yes, all1]
        refine ⟨D, _, rfl, SqL.of upd_same, _, rfl, ?_⟩
        rw [all2]
        have sm : Same H (upd (upd H tp (.tup [.ty "list", .ty "tuple"])) D (.lst ((zs.map fun z => decide (z ∈ bars6)).map V.bl))) := (same_new htp).trans (same_new hD)
        obtain ⟨k1, k2⟩ := key _ sm _ rfl
        cases e : decide (∀ z ∈ zs, z ∈ bars6) with
        | false => exact iteT (k1 e)
        | true =>
          refine iteF ⟨_, rfl, p, _, rfl, .inr (by rw [mapkV]; exact same_t sm hp), by rw [List.length_map]; omega, _, rfl, p, _, rfl, .inr (same_t sm hp), ?_⟩
          rw [List.length_map]
          refine ⟨rfl, ?_⟩
          have q := k2 e
          rw [show decide (V.int ((met (zs.map Sum.inr : List Key)).length : Nat) = V.int (zs.length : Nat)) = decide (((met (zs.map Sum.inr : List Key)).length : Int) = (zs.length : Nat)) from decide_eq_decide.mpr ⟨fun z => V.int.inj z, fun z => by rw [z]⟩]
          exact q
/-- a field that is right -/
def spNeed (K : PySem.W.Frag) : Sp := fun vs H Q _ => ∃ (f : V) (z : Str) (p : Addr) (ws : List Str), vs = [f, .str z, .ref p] ∧ SqT K H p (ws.map V.str) ∧ z ∈ ws ∧ Q .non H
theorem has_need (T : Tx K mg) : Has P w K mg base "need_field" 2 ["field", "thing", "words"] (spNeed K) := by
  have h_is_one_of : Has P w K mg base "is_one_of" 1 ["thing", "words"] (spOneOf K) := has_oneOf T
  refine has_of (k := 1) (g_need_field T) (d_need_field T) sc_need_field (fun _ _ _ _ _ _ us hl => match us, hl with | [_, _, _], _ => rfl) (fun vs H Q E h => ?_) (fun cdv A outer s H vs Q E hr h => ?_)
  · obtain ⟨f, z, p, ws, rfl, _⟩ := h
    rfl
  · obtain ⟨f, z, p, ws, rfl, hp, hz, q⟩ := h
    refine ⟨_, (pss_one (ps_if (pt_not (pt_val (pe_has h_is_one_of (hr.mono (by decide)) rfl (pa_cons (pv 1) (pa_cons (pv 2) pa_nil))))) (pss_one ps_never) pss_nil)), ?_⟩
    refine ⟨_, rfl, _, rfl, _, p, ws, rfl, hp, .inl ⟨z, rfl, ?_⟩⟩
    rw [decide_eq_true hz]
    exact ⟨true, rfl, iteF q⟩
end

end HL

namespace HL
open PySem PySem.Spec PyProof.Rows L2

section
variable {P : Program} {w : World} {K : PySem.W.Frag} {mg : Str → Option Value} {base : Heap}
/-! ### a new book -/
def held2 : List Str := ["home", "now"]
def each2 : List Str := ["now", "program"]
def lift2 : List Str := ["nothing", "kept"]
def ends3 : List Str := ["holder", "never", "scope"]
def work3 : List Str := ["own", "same", "wait"]
structure Bk where
  held : Str
  each : Str
  lifted : Str
  ends : Str
  works : Str
  bars : List Str
def Bk.fs (b : Bk) (t : Addr) : List (Str × V) := [("b_held", .str b.held), ("b_each", .str b.each), ("b_lifted", .str b.lifted), ("b_ends", .str b.ends), ("b_works", .str b.works), ("b_bars", .ref t)]
structure Bk.Ok (b : Bk) : Prop where
  h : b.held ∈ held2
  e : b.each ∈ each2
  l : b.lifted ∈ lift2
  n : b.ends ∈ ends3
  k : b.works ∈ work3
  r : ∀ z ∈ b.bars, z ∈ bars6
  d : b.bars.Nodup
theorem nodup_len {α : Type} [BEq α] [LawfulBEq α] : ∀ (l m : List α), l.Nodup → (∀ x ∈ l, x ∈ m) → l.length ≤ m.length
  | [], _, _, _ => Nat.zero_le _
  | x :: l, m, hd, hs => by
    obtain ⟨h1, h2⟩ := List.nodup_cons.mp hd
    have hx : x ∈ m := hs x List.mem_cons_self
    have q := nodup_len l (m.erase x) h2 fun y hy => (List.mem_erase_of_ne (fun e : y = x => h1 (by rw [← e]; exact hy))).mpr (hs y (List.mem_cons_of_mem _ hy))
    rw [List.length_erase_of_mem hx] at q
    have : 0 < m.length := List.length_pos_of_mem hx
    simp only [List.length_cons]
    omega
theorem Bk.Ok.few {b : Bk} (h : b.Ok) : b.bars.length ≤ 6 := nodup_len _ bars6 h.d h.r
def spInit (K : PySem.W.Frag) : Sp := fun vs H Q _ => ∃ (x dx p : Addr) (b : Bk), vs = [.ref x, .str b.held, .str b.each, .str b.lifted, .str b.ends, .str b.works, .ref p] ∧ H x = some (.ins (He.ga K "Book") dx []) ∧ b.Ok ∧
  (H p = some (.lst (b.bars.map V.str)) ∨ SqT K H p (b.bars.map V.str)) ∧
  ∀ (t : Addr) (ys : List Str) (H' : Hp), ys.Perm b.bars → sortedS ys = true → SmD x H H' → H' x = some (.ins (He.ga K "Book") dx (({ b with bars := ys } : Bk).fs t)) → H' t = some (.tup (ys.map V.str)) → Q .non H'
theorem fn_init (T : Tx K mg) : ∃ fd, FunD K "__init__" "Book.__init__" (defArgs s_Book_init) (defBody s_Book_init) (defScope s_Book_init) (dd_Book_init.dvs K) (dd_Book_init.kws K) (mAt "Book" "__init__" K) fd ∧
    FnOk P w K mg base CX0 3 (mAt "Book" "__init__" K) fd ["self", "held", "each", "lifted", "ends", "works", "bars"] (spInit K) := by
  have h_need_field : Has P w K mg base "need_field" 2 ["field", "thing", "words"] (spNeed K) := has_need T
  have h_are_bars : Has P w K mg base "are_bars" 2 ["thing"] (spBars K) := has_bars T
  obtain ⟨fd, F⟩ := d_Book_init T
  refine ⟨fd, F, F.ok sc_Book_init (fun vs H Q E h => ?_) fun cdv A outer s H vs Q E hr h => ?_⟩
  · obtain ⟨x, dx, p, b, rfl, _⟩ := h
    rfl
  · obtain ⟨x, dx, p, b, rfl, hx, ok, hp, k⟩ := h
    have hu := hu_of hr
    suffices h : ∃ t, PSs (cxOf CX0 P w K mg base N_Book_init "Book.__init__" (defScope s_Book_init) (mAt "Book" "__init__" K) cdv A outer s H E).nox (defBody s_Book_init) t ∧ t { nx := fun _ H' => Q .non H', rt := Q } (start N_Book_init [.ref x, .str b.held, .str b.each, .str b.lifted, .str b.ends, .str b.works, .ref p]) H by
      obtain ⟨t, h1, h2⟩ := h
      exact ⟨t, h1.nox, h2⟩
    refine ⟨_, (pss_cons (ps_expr (pe_has h_need_field (hr.mono (by decide)) rfl (pa_cons pe_str (pa_cons (pv 1) (pa_cons (pe_glob (v := .ref (He.ga K "HELD")) rfl (g_HELD T) rfl) pa_nil))))) (pss_cons (ps_expr (pe_has h_need_field (hr.mono (by decide)) rfl (pa_cons pe_str (pa_cons (pv 2) (pa_cons (pe_glob (v := .ref (He.ga K "EACH")) rfl (g_EACH T) rfl) pa_nil))))) (pss_cons (ps_expr (pe_has h_need_field (hr.mono (by decide)) rfl (pa_cons pe_str (pa_cons (pv 3) (pa_cons (pe_glob (v := .ref (He.ga K "LIFTED")) rfl (g_LIFTED T) rfl) pa_nil))))) (pss_cons (ps_expr (pe_has h_need_field (hr.mono (by decide)) rfl (pa_cons pe_str (pa_cons (pv 4) (pa_cons (pe_glob (v := .ref (He.ga K "ENDS")) rfl (g_ENDS T) rfl) pa_nil))))) (pss_cons (ps_expr (pe_has h_need_field (hr.mono (by decide)) rfl (pa_cons pe_str (pa_cons (pv 5) (pa_cons (pe_glob (v := .ref (He.ga K "WORKS")) rfl (g_WORKS T) rfl) pa_nil))))) (pss_cons (ps_if (pt_not (pt_val (pe_has h_are_bars (hr.mono (by decide)) rfl (pa_cons (pv 6) pa_nil)))) (pss_one ps_never) pss_nil) (pss_cons (ps_fld (pv 0) (pv 1) rfl) (pss_cons (ps_fld (pv 0) (pv 2) rfl) (pss_cons (ps_fld (pv 0) (pv 3) rfl) (pss_cons (ps_fld (pv 0) (pv 4) rfl) (pss_cons (ps_fld (pv 0) (pv 5) rfl) (pss_one (ps_fld (pv 0) (pe_callTy call_tuple_of (by rfl) (m_tuple T) boot_tuple (pa_cons (pe_callB cr_sortedQ (by rfl) (m_sorted T) boot_sorted (pa_cons (pv 6) pa_nil)) pa_nil)) rfl))))))))))))), ?_⟩
    refine ⟨_, rfl, _, b.held, _, held2, rfl, c_HELD T H, ok.h, ?_⟩
    refine ⟨_, rfl, _, b.each, _, each2, rfl, c_EACH T H, ok.e, ?_⟩
    refine ⟨_, rfl, _, b.lifted, _, lift2, rfl, c_LIFTED T H, ok.l, ?_⟩
    refine ⟨_, rfl, _, b.ends, _, ends3, rfl, c_ENDS T H, ok.n, ?_⟩
    refine ⟨_, rfl, _, b.works, _, work3, rfl, c_WORKS T H, ok.k, ?_⟩
    refine ⟨_, rfl, p, b.bars, rfl, hp, Nat.le_trans ok.few (by decide), fun H1 sm => ?_⟩
    rw [decide_eq_true (show (∀ z ∈ b.bars, z ∈ bars6) ∧ b.bars.Nodup from ⟨ok.r, ok.d⟩)]
    refine ⟨true, rfl, iteF ?_⟩
    have C := cls_Book T
    refine ⟨_, rfl, _, rfl, x, _, dx, _, rfl, sm _ _ hx, C, na_Book_b_held T, by decide, ?_⟩
    refine ⟨_, rfl, _, rfl, x, _, dx, _, rfl, upd_same, C, na_Book_b_each T, (by show 1 < 1000; decide), ?_⟩
    refine ⟨_, rfl, _, rfl, x, _, dx, _, rfl, upd_same, C, na_Book_b_lifted T, (by show 2 < 1000; decide), ?_⟩
    refine ⟨_, rfl, _, rfl, x, _, dx, _, rfl, upd_same, C, na_Book_b_ends T, (by show 3 < 1000; decide), ?_⟩
    refine ⟨_, rfl, _, rfl, x, _, dx, _, rfl, upd_same, C, na_Book_b_works T, (by show 4 < 1000; decide), ?_⟩
    simp only [upd_upd]
    generalize hH2 : upd H1 x _ = H2
    have kx : ∀ b o, b ≠ x → H b = some o → H2 b = some o := fun b o nb e => by
      rw [← hH2, upd_ne nb]
      exact sm _ _ e
    have hp2 : SqL K H2 p (b.bars.map V.str) ∨ SqT K H2 p (b.bars.map V.str) := by
      rcases hp with hp | hp
      · exact .inl (SqL.of (kx _ _ (ne_of hp hx (by intro z; cases z)) hp))
      · rcases hp with (hp | ⟨o, hp⟩) | hp
        · exact .inr (.inl (.inl (kx _ _ (ne_of hp hx (by intro z; cases z)) hp)))
        · exact .inr (.inl (.inr ⟨o, kx _ _ (ne_of hp hx (by intro z; cases z)) hp⟩))
        · exact .inr (.inr hp)
    have h2x : ∃ fs, H2 x = some (.ins (He.ga K "Book") dx fs) ∧ fs = ([("b_held", .str b.held), ("b_each", .str b.each), ("b_lifted", .str b.lifted), ("b_ends", .str b.ends), ("b_works", .str b.works)] : List (Str × V)) := by
      rw [← hH2]
      exact ⟨_, upd_same, rfl⟩
    obtain ⟨fs, h2x, efs⟩ := h2x
    refine ⟨_, rfl, p, b.bars, rfl, hp2, Nat.lt_of_le_of_lt ok.few (by decide), fun ys l pm so hl => ?_⟩
    refine ⟨l, _, rfl, .inl ⟨SqL.of upd_same, fun t ht => ?_⟩⟩
    have nxl : x ≠ l := fun z => by
      rw [← z, h2x] at hl
      cases hl
    have nxt : x ≠ t := fun z => by
      rw [← z, upd_ne nxl, h2x] at ht
      cases ht
    have h3x : upd (upd H2 l (.lst (ys.map V.str))) t (.tup (ys.map V.str)) x = some (.ins (He.ga K "Book") dx fs) := by
      rw [upd_ne nxt, upd_ne nxl]
      exact h2x
    refine ⟨_, rfl, x, _, dx, _, rfl, h3x, C, na_Book_b_bars T, by rw [efs]; show 5 < 1000; decide, ?_⟩
    refine k t ys _ pm so (fun b o nb e => ?_) ?_ ?_
    · rw [upd_ne nb]
      have e2 := kx b o nb e
      have nbl : b ≠ l := fun z => by
        rw [z, hl] at e2
        cases e2
      have e3 : upd H2 l (.lst (ys.map V.str)) b = some o := by
        rw [upd_ne nbl]
        exact e2
      rw [upd_ne (ne_of_none e3 ht)]
      exact e3
    · rw [upd_same, efs]
      rfl
    · rw [upd_ne nxt.symm, upd_same]
end

end HL

namespace HL
open PySem PySem.Spec PyProof.Rows L2

section
/-! ### calls by keyword: each value at its place -/
def gPick {α : Type} (ix : List Nat) (us mv ws : List α) : List α := us ++ ix.filterMap fun i => (mv ++ ws)[i]?
theorem vals_at : ∀ {l : List V} {r : List Value}, Vals l r → ∀ i : Nat, (l[i]? = none ∧ r[i]? = none) ∨ ∃ v u, l[i]? = some v ∧ r[i]? = some u ∧ RelV v u
  | _, _, .nil, i => .inl ⟨by simp, by simp⟩
  | _, _, .cons h t, 0 => .inr ⟨_, _, rfl, rfl, h⟩
  | _, _, .cons h t, i + 1 => by
    have q := vals_at t i
    simpa using q
theorem vals_pick {l : List V} {r : List Value} (h : Vals l r) : ∀ ix : List Nat, Vals (ix.filterMap fun i => l[i]?) (ix.filterMap fun i => r[i]?)
  | [] => .nil
  | i :: ix => by
    have q := vals_pick h ix
    rcases vals_at h i with ⟨e1, e2⟩ | ⟨v, u, e1, e2, rv⟩
    · rw [List.filterMap_cons, List.filterMap_cons, e1, e2]
      exact q
    · rw [List.filterMap_cons, List.filterMap_cons, e1, e2]
      exact .cons rv q
theorem vals_gPick (ix : List Nat) {vs mz zs : List V} {us mv ws : List Value} (h1 : Vals vs us) (h2 : Vals mz mv) (h3 : Vals zs ws) : Vals (gPick ix vs mz zs) (gPick ix us mv ws) := h1.append (vals_pick (h2.append h3) ix)
variable {P : Program} {w : World} {K : PySem.W.Frag} {mg : Str → Option Value} {base : Heap}
theorem kb_held_each_lifted_ends_works_bars {fd : FuncData} (F : FunD K "__init__" "Book.__init__" (defArgs s_Book_init) (defBody s_Book_init) (defScope s_Book_init) (dd_Book_init.dvs K) (dd_Book_init.kws K) (mAt "Book" "__init__" K) fd) :
    ∃ g, KBn K fd ["self", "held", "each", "lifted", "ends", "works", "bars"] 1 ["held", "each", "lifted", "ends", "works", "bars"] g (fun vs zs => gPick [0, 1, 2, 3, 4, 5] vs (([] : List (Str × V)).map (·.2)) zs) := by
  obtain ⟨mv, h⟩ := F.kbinds0 (ps := ["self", "held", "each", "lifted", "ends", "works", "bars"]) 1 ["held", "each", "lifted", "ends", "works", "bars"] [] (fun {α} => gPick (α := α) [0, 1, 2, 3, 4, 5]) (by intro z; cases z) (fun q hq => by cases hq) (fun h1 h2 h3 => vals_gPick _ h1 h2 h3) (fun D doc pm an cdv ct us mv ws l1 l2 l3 => match us, mv, ws, l1, l2, l3 with
    | [_], [], [_, _, _, _, _, _], _, _, _ => rfl)
  exact ⟨_, h⟩
theorem pe_newB {X : Cx} {ks : List Str} {gV : List V → List V → List V} {kws : List Keyword} {tk : TA} {p pos : Pos} (T : Tx X.K X.mg)
    (kb : ∀ {fd : FuncData}, FunD X.K "__init__" "Book.__init__" (defArgs s_Book_init) (defBody s_Book_init) (defScope s_Book_init) (dd_Book_init.dvs X.K) (dd_Book_init.kws X.K) (mAt "Book" "__init__" X.K) fd → ∃ g, KBn X.K fd ["self", "held", "each", "lifted", "ends", "works", "bars"] 1 ks g gV)
    (hr : Room 4 X.A) (hg : Gl X "Book") (hkw : PK X kws tk) (hall : (backToKw pos (keywordEach kws X.env)).all (·.1.isSome) = true := by rfl) (hks : (backToKw pos (keywordEach kws X.env)).filterMap (·.1) = ks := by rfl)
    (hpl : ((backTo pos (starEach [] X.env)).any (·.1) || (backToKw pos (keywordEach kws X.env)).any (·.1.isNone)) = false := by rfl) :
    PE X (.Call (.Name "Book" p) [] kws pos) (tMakeK (He.ga X.K "Book") 0 ks.length (spInit X.K) gV E0 tNil tk) := by
  obtain ⟨fd, F, ok⟩ := fn_init (P := X.prog) (w := X.w) (base := X.base) T
  obtain ⟨g, hb⟩ := kb F
  exact pe_makeK0 (mk_Book T) ok hr hg (g_Book T) hb pass0 hkw hall hks (by decide) hpl
/-- a book that stands -/
def BookAt (K : PySem.W.Frag) (H : Hp) (a : Addr) (b : Bk) : Prop := ∃ dx t, H a = some (.ins (He.ga K "Book") dx (b.fs t)) ∧ SqT K H t (b.bars.map V.str)
theorem BookAt.kp {H H' : Hp} {a : Addr} {b : Bk} (h : BookAt K H a b) (e : Kp H H') : BookAt K H' a b := by
  obtain ⟨dx, t, h1, h2⟩ := h
  exact ⟨dx, t, e.ins h1, e.t h2⟩
theorem BookAt.same {H H' : Hp} {a : Addr} {b : Bk} (h : BookAt K H a b) (e : Same H H') : BookAt K H' a b := h.kp (.of e)
structure Bk.Good (b : Bk) : Prop where
  ok : b.Ok
  so : sortedS b.bars = true
theorem Bk.Ok.perm {b : Bk} (h : b.Ok) {ys : List Str} (p : ys.Perm b.bars) : ({ b with bars := ys } : Bk).Ok := ⟨h.h, h.e, h.l, h.n, h.k, fun z hz => h.r z (p.mem_iff.mp hz), p.nodup_iff.mpr h.d⟩
theorem init_ok {H2 : Hp} {vs : List V} {Q' : VK} (b : Bk) (p : Addr) {x dx : Addr} (hx : H2 x = none) (hdx : H2 dx = none) (nx : dx ≠ x) (hv : vs = [.ref x, .str b.held, .str b.each, .str b.lifted, .str b.ends, .str b.works, .ref p]) (ok : b.Ok)
    (hp : H2 p = some (.lst (b.bars.map V.str)) ∨ SqT K H2 p (b.bars.map V.str)) (k : ∀ (ys : List Str) (H' : Hp), Same H2 H' → ys.Perm b.bars → ({ b with bars := ys } : Bk).Good → BookAt K H' x { b with bars := ys } → Q' .non H') :
    spInit K vs (upd (upd H2 dx (.own x)) x (.ins (He.ga K "Book") dx [])) Q' E0 := by
  have sm : Same H2 (upd (upd H2 dx (.own x)) x (.ins (He.ga K "Book") dx [])) := same_upd (same_new hdx) hx
  refine ⟨x, dx, p, b, hv, upd_same, ok, ?_, fun t ys H' pm so sd hx' ht => k ys H' (fun b o e => ?_) pm ⟨ok.perm pm, so⟩ ⟨dx, t, hx', .inl (.inl ht)⟩⟩
  · rcases hp with hp | hp
    · exact .inl (sm _ _ hp)
    · exact .inr (same_t sm hp)
  · exact sd b o (ne_of_none e hx) (sm _ _ e)
theorem mk_ok {H2 : Hp} {zs : List V} {gV : List V → List V → List V} {m : Nat} {Q : VK} (b : Bk) (p : Addr) (hzs : zs.length = m) (hg : ∀ x, gV [.ref x] zs = [.ref x, .str b.held, .str b.each, .str b.lifted, .str b.ends, .str b.works, .ref p]) (ok : b.Ok)
    (hp : H2 p = some (.lst (b.bars.map V.str)) ∨ SqT K H2 p (b.bars.map V.str)) (k : ∀ (a : Addr) (ys : List Str) (H' : Hp), Same H2 H' → H2 a = none → ys.Perm b.bars → ({ b with bars := ys } : Bk).Good → BookAt K H' a { b with bars := ys } → Q (.ref a) H') :
    (([] : List V).length = 0 ∧ zs.length = m ∧ ∀ x dx, H2 x = none → H2 dx = none → dx ≠ x → spInit K (gV (.ref x :: []) zs) (upd (upd H2 dx (.own x)) x (.ins (He.ga K "Book") dx [])) (fun v H3 => v = .non ∧ Q (.ref x) H3) E0) := by
  refine ⟨rfl, hzs, fun x dx hx hdx nx => ?_⟩
  have sm : Same H2 (upd (upd H2 dx (.own x)) x (.ins (He.ga K "Book") dx [])) := same_upd (same_new hdx) hx
  refine ⟨x, dx, p, b, hg x, upd_same, ok, ?_, fun t ys H' pm so sd hx' ht => ⟨rfl, k x ys H' (fun b o e => ?_) hx pm ⟨ok.perm pm, so⟩ ⟨dx, t, hx', .inl (.inl ht)⟩⟩⟩
  · rcases hp with hp | hp
    · exact .inl (sm _ _ hp)
    · exact .inr (same_t sm hp)
  · exact sd b o (ne_of_none e hx) (sm _ _ e)
/-- o.with_bars(bars = v) binds -/
theorem kb_with {fd : FuncData} (F : FunD K "with_bars" "Book.with_bars" (defArgs s_Book_with_bars) (defBody s_Book_with_bars) (defScope s_Book_with_bars) [] [] (mAt "Book" "with_bars" K) fd) :
    KBn K fd ["self", "bars"] 1 ["bars"] (fun us ws => us ++ ws) (fun vs zs => vs ++ zs) := by
  obtain ⟨oc, od, dV, kV, doc, pm, an, cdv, ct, osl, rfl, lk, hcd, hD, hK⟩ := F.ex
  rcases hD with ⟨_, rfl⟩ | ⟨e, _⟩
  · refine ⟨fun s us ws X l1 l2 => ?_, fun r1 r2 => r1.append r2⟩
    match us, ws, l1, l2 with
    | [_], [_], _, _ => exact .of_eq rfl
  · exact absurd rfl e
end

end HL

namespace HL
open PySem PySem.Spec PyProof.Rows L2

section
variable {P : Program} {w : World} {K : PySem.W.Frag} {mg : Str → Option Value} {base : Heap}
/-! ### what a book tells -/
theorem a_held (T : Tx K mg) : At P w K mg base (pAt "Book" "held" K) 1 ["self"] (getSp (He.ga K "Book") "b_held") := at_getter (d_Book_held T) sc_Book_held rfl rfl (cls_Book T) (na_Book_b_held T) (fun _ _ _ _ _ _ us hl => match us, hl with | [_], _ => rfl)
theorem a_each (T : Tx K mg) : At P w K mg base (pAt "Book" "each" K) 1 ["self"] (getSp (He.ga K "Book") "b_each") := at_getter (d_Book_each T) sc_Book_each rfl rfl (cls_Book T) (na_Book_b_each T) (fun _ _ _ _ _ _ us hl => match us, hl with | [_], _ => rfl)
theorem a_lifted (T : Tx K mg) : At P w K mg base (pAt "Book" "lifted" K) 1 ["self"] (getSp (He.ga K "Book") "b_lifted") := at_getter (d_Book_lifted T) sc_Book_lifted rfl rfl (cls_Book T) (na_Book_b_lifted T) (fun _ _ _ _ _ _ us hl => match us, hl with | [_], _ => rfl)
theorem a_ends (T : Tx K mg) : At P w K mg base (pAt "Book" "ends" K) 1 ["self"] (getSp (He.ga K "Book") "b_ends") := at_getter (d_Book_ends T) sc_Book_ends rfl rfl (cls_Book T) (na_Book_b_ends T) (fun _ _ _ _ _ _ us hl => match us, hl with | [_], _ => rfl)
theorem a_works (T : Tx K mg) : At P w K mg base (pAt "Book" "works" K) 1 ["self"] (getSp (He.ga K "Book") "b_works") := at_getter (d_Book_works T) sc_Book_works rfl rfl (cls_Book T) (na_Book_b_works T) (fun _ _ _ _ _ _ us hl => match us, hl with | [_], _ => rfl)
theorem a_bars (T : Tx K mg) : At P w K mg base (pAt "Book" "bars" K) 1 ["self"] (getSp (He.ga K "Book") "b_bars") := at_getter (d_Book_bars T) sc_Book_bars rfl rfl (cls_Book T) (na_Book_b_bars T) (fun _ _ _ _ _ _ us hl => match us, hl with | [_], _ => rfl)
def Bk.five (b : Bk) : List Str := [b.held, b.each, b.lifted, b.ends, b.works]
def spChoices (K : PySem.W.Frag) : Sp := fun vs H Q _ => ∃ (a : Addr) (b : Bk), vs = [.ref a] ∧ BookAt K H a b ∧ ∀ t, H t = none → Q (.ref t) (upd H t (.tup (b.five.map V.str)))
theorem a_choices (T : Tx K mg) : At P w K mg base (mAt "Book" "choices" K) 1 ["self"] (spChoices K) := by
  refine at_of (k := 0) (d_Book_choices T) sc_Book_choices (fun _ _ _ _ _ _ us hl => match us, hl with | [_], _ => rfl) (fun vs H Q E h => ?_) (fun cdv A outer s H vs Q E hr h => ?_)
  · obtain ⟨a, b, rfl, _⟩ := h
    rfl
  · obtain ⟨a, b, rfl, ⟨dx, t, h1, h2⟩, k⟩ := h
    have C := cls_Book T
    refine ⟨_, (pss_one (ps_ret (pe_tup (pa_cons (pe_fld (pv 0) rfl) (pa_cons (pe_fld (pv 0) rfl) (pa_cons (pe_fld (pv 0) rfl) (pa_cons (pe_fld (pv 0) rfl) (pa_cons (pe_fld (pv 0) rfl) pa_nil)))))))), ?_⟩
    exact ⟨_, rfl, a, _, dx, _, _, rfl, h1, C, na_Book_b_held T, rfl, _, rfl, a, _, dx, _, _, rfl, h1, C, na_Book_b_each T, rfl, _, rfl, a, _, dx, _, _, rfl, h1, C, na_Book_b_lifted T, rfl,
      _, rfl, a, _, dx, _, _, rfl, h1, C, na_Book_b_ends T, rfl, _, rfl, a, _, dx, _, _, rfl, h1, C, na_Book_b_works T, rfl, by show 5 ≤ sizeLine; decide, k⟩
theorem okS : ∀ z ∈ held2 ++ each2 ++ lift2 ++ ends3 ++ work3 ++ bars6, PyData.strOk z = true := by decide +kernel
theorem Bk.Ok.fiveOk {b : Bk} (h : b.Ok) : ∀ z ∈ b.five, PyData.strOk z = true := by
  have h1 := h.h
  have h2 := h.e
  have h3 := h.l
  have h4 := h.n
  have h5 := h.k
  intro z hz
  simp only [Bk.five, List.mem_cons, List.not_mem_nil, or_false] at hz
  refine okS z ?_
  simp only [List.mem_append]
  rcases hz with rfl | rfl | rfl | rfl | rfl
  · exact .inl (.inl (.inl (.inl (.inl h1))))
  · exact .inl (.inl (.inl (.inl (.inr h2))))
  · exact .inl (.inl (.inl (.inr h3)))
  · exact .inl (.inl (.inr h4))
  · exact .inl (.inr h5)
theorem Bk.Ok.barsOk {b : Bk} (h : b.Ok) : ∀ z ∈ b.bars, PyData.strOk z = true := fun z hz => okS z (by simp only [List.mem_append]; exact .inr (h.r z hz))
/-- == of a book and a book, or a thing of another kind -/
def spEq (K : PySem.W.Frag) : Sp := fun vs H Q _ => ∃ (a : Addr) (b : Bk) (y : V), vs = [.ref a, y] ∧ BookAt K H a b ∧ b.Ok ∧
  ((∃ (c : Addr) (b2 : Bk), y = .ref c ∧ BookAt K H c b2 ∧ b2.Ok ∧ ∀ H', Same H H' → Q (.bl (decide (b.five = b2.five ∧ b.bars = b2.bars))) H') ∨
   (∃ t : String, t ∈ ["NoneType", "bool", "int", "str", "list", "tuple", "dict"] ∧ TyX K H y (.type t) ∧ Q (.bl false) H))
theorem a_eq (T : Tx K mg) : At P w K mg base (mAt "Book" "__eq__" K) 2 ["self", "other"] (spEq K) := by
  have a_Book_choices : At P w K mg base (mAt "Book" "choices" K) 1 ["self"] (spChoices K) := a_choices T
  refine at_of (k := 1) (d_Book_eq T) sc_Book_eq (fun _ _ _ _ _ _ us hl => match us, hl with | [_, _], _ => rfl) (fun vs H Q E h => ?_) (fun cdv A outer s H vs Q E hr h => ?_)
  · obtain ⟨a, b, y, rfl, _⟩ := h
    rfl
  · obtain ⟨a, b, y, rfl, hb, ok, h⟩ := h
    have C := cls_Book T
    refine ⟨_, (pss_cons (ps_if (pt_not (pt_val (pe_callB call_isi (by rfl) (m_isinstance T) boot_isinstance (pa_cons (pv 1) (pa_cons (pe_glob (v := .ref (He.ga K "Book")) rfl (g_Book T) rfl) pa_nil))))) (pss_one (ps_ret pe_bl)) pss_nil) (pss_one (ps_ret (pe_and (pe_cmpR (op_eqD hr.units) (pe_at0 a_Book_choices (cls_Book T) (me_Book_choices T) (hr.mono (by decide)) (pv 0)) (pe_at0 a_Book_choices (cls_Book T) (me_Book_choices T) (hr.mono (by decide)) (pv 1)) (nomark _)) (pe_one (pe_cmpR (op_eqD hr.units) (pe_fld (pv 0) rfl) (pe_fld (pv 1) rfl) (nomark _))))))), ?_⟩
    rcases h with ⟨c, b2, rfl, hb2, ok2, k⟩ | ⟨t, ht, ty, q⟩
    · have e2 := hb2
      have e1 := hb
      obtain ⟨dx2, t2, g1, g2⟩ := e2
      obtain ⟨dx, t, h1, h2⟩ := e1
      refine ⟨_, rfl, _, _, _, _, true, rfl, .own _, ins_ty (in_Book T) C g1, kit_self, true, rfl, iteF ?_⟩
      refine ⟨_, rfl, a, dx, _, rfl, h1, rfl, a, b, rfl, hb, fun t1 ht1 => ?_⟩
      have s1 : Same H (upd H t1 (.tup (b.five.map V.str))) := same_new ht1
      refine ⟨_, rfl, c, dx2, _, rfl, s1 _ _ g1, rfl, c, b2, rfl, hb2.same s1, fun t3 ht3 => ?_⟩
      have s3 : Same (upd H t1 (.tup (b.five.map V.str))) (upd (upd H t1 (.tup (b.five.map V.str))) t3 (.tup (b2.five.map V.str))) := same_new ht3
      refine ⟨_, _, .tup (.inl (.inl (s3 _ _ upd_same))) (dpa_strs b.five), .tup (.inl (.inl upd_same)) (dpa_strs b2.five), shaped_tupS ok.fiveOk, shaped_tupS ok2.fiveOk, ?_⟩
      rw [PyData.eqv, eqvAll_strs]
      refine ⟨_, rfl, ?_⟩
      have q := k _ (s1.trans s3)
      by_cases e : b.five = b2.five
      · rw [decide_eq_true e]
        refine iteT ⟨_, rfl, a, _, dx, _, _, rfl, s3 _ _ (s1 _ _ h1), C, na_Book_b_bars T, rfl, _, rfl, c, _, dx2, _, _, rfl, s3 _ _ (s1 _ _ g1), C, na_Book_b_bars T, rfl, ?_⟩
        refine ⟨_, _, .tup (same_t s3 (same_t s1 h2)) (dpa_strs b.bars), .tup (same_t s3 (same_t s1 g2)) (dpa_strs b2.bars), shaped_tupS ok.barsOk, shaped_tupS ok2.barsOk, ?_⟩
        rw [PyData.eqv, eqvAll_strs]
        rw [show decide (b.five = b2.five ∧ b.bars = b2.bars) = decide (b.bars = b2.bars) from decide_eq_decide.mpr ⟨fun z => z.2, fun z => ⟨e, z⟩⟩] at q
        exact q
      · rw [decide_eq_false e]
        rw [decide_eq_false (fun z : b.five = b2.five ∧ b.bars = b2.bars => e z.1)] at q
        exact iteF q
    · exact ⟨_, rfl, _, _, _, _, false, rfl, .own _, ty, ins_not (in_Book T) ht, false, rfl, iteT q⟩
/-- a book with other bars -/
def spWith (K : PySem.W.Frag) : Sp := fun vs H Q _ => ∃ (a p : Addr) (b : Bk) (zs : List Str), vs = [.ref a, .ref p] ∧ BookAt K H a b ∧ ({ b with bars := zs } : Bk).Ok ∧ (H p = some (.lst (zs.map V.str)) ∨ SqT K H p (zs.map V.str)) ∧
  ∀ (c : Addr) (ys : List Str) (H' : Hp), Same H H' → H c = none → ys.Perm zs → ({ b with bars := ys } : Bk).Good → BookAt K H' c { b with bars := ys } → Q (.ref c) H'
theorem fn_with (T : Tx K mg) : ∃ fd, FunD K "with_bars" "Book.with_bars" (defArgs s_Book_with_bars) (defBody s_Book_with_bars) (defScope s_Book_with_bars) [] [] (mAt "Book" "with_bars" K) fd ∧
    FnOk P w K mg base CX0 5 (mAt "Book" "with_bars" K) fd ["self", "bars"] (spWith K) ∧ Binds K fd ["self", "bars"] [] := by
  have a_Book_choices : At P w K mg base (mAt "Book" "choices" K) 1 ["self"] (spChoices K) := a_choices T
  obtain ⟨fd, F⟩ := d_Book_with_bars T
  refine ⟨fd, F, F.ok sc_Book_with_bars (fun vs H Q E h => ?_) (fun cdv A outer s H vs Q E hr h => ?_), F.bindsN (fun _ _ _ _ _ _ us hl => match us, hl with | [_, _], _ => rfl)⟩
  · obtain ⟨a, p, b, zs, rfl, _⟩ := h
    rfl
  · obtain ⟨a, p, b, zs, rfl, hb, ok, hp, k⟩ := h
    suffices h : ∃ t, PSs (cxOf CX0 P w K mg base N_Book_with_bars "Book.with_bars" (defScope s_Book_with_bars) (mAt "Book" "with_bars" K) cdv A outer s H E).nox (defBody s_Book_with_bars) t ∧ t { nx := fun _ H' => Q .non H', rt := Q } (start N_Book_with_bars [.ref a, .ref p]) H by
      obtain ⟨t, h1, h2⟩ := h
      exact ⟨t, h1.nox, h2⟩
    refine ⟨_, (pss_cons (ps_asg (pe_at0 a_Book_choices (cls_Book T) (me_Book_choices T) (hr.mono (by decide)) (pv 0)) (pg_tup (by rfl) (pgs_cons (pg_name (i := 2) sc_Book_with_bars.nd rfl (Or.inl rfl)) (pgs_cons (pg_name (i := 3) sc_Book_with_bars.nd rfl (Or.inl rfl)) (pgs_cons (pg_name (i := 4) sc_Book_with_bars.nd rfl (Or.inl rfl)) (pgs_cons (pg_name (i := 5) sc_Book_with_bars.nd rfl (Or.inl rfl)) (pgs_cons (pg_name (i := 6) sc_Book_with_bars.nd rfl (Or.inl rfl)) pgs_nil))))))) (pss_one (ps_ret (pe_newB T kb_held_each_lifted_ends_works_bars (hr.mono (by decide)) rfl (pk_cons (pv 2) (pk_cons (pv 3) (pk_cons (pv 4) (pk_cons (pv 5) (pk_cons (pv 6) (pk_cons (pv 1) pk_nil)))))))))), ?_⟩
    have e1 := hb
    obtain ⟨dx, t, h1, h2⟩ := e1
    refine ⟨_, rfl, a, dx, _, rfl, h1, rfl, a, b, rfl, hb, fun t1 ht1 => ?_⟩
    have s1 : Same H (upd H t1 (.tup (b.five.map V.str))) := same_new ht1
    refine ⟨t1, _, rfl, .inl (.inl upd_same), rfl, _, _, rfl, _, _, rfl, _, _, rfl, _, _, rfl, _, _, rfl, rfl, ?_⟩
    refine ⟨_, rfl, _, rfl, _, rfl, _, rfl, _, rfl, _, rfl, mk_ok { b with bars := zs } p rfl (fun x => rfl) ok ?_ fun c ys H' sm hc pm gd hb' => k c ys H' (s1.trans sm) ?_ pm gd hb'⟩
    · rcases hp with hp | hp
      · exact .inl (s1 _ _ hp)
      · exact .inr (same_t s1 hp)
    · cases e : H c with
      | none => rfl
      | some o =>
        rw [s1 _ _ e] at hc
        cases hc
end

end HL

namespace HL
open PySem PySem.Spec PyProof.Rows L2


section
variable {P : Program} {w : World} {K : PySem.W.Frag} {mg : Str → Option Value} {base : Heap}
/-! ### the law's own defs -/
def spAll : Sp := fun vs H Q _ => vs = [] ∧ ∀ l, H l = none → Q (.ref l) (upd H l (.lst (bars6.map V.str)))
theorem has_all (T : Tx K mg) : Has P w K mg base "_law_all_bars" 1 [] spAll := by
  refine has_of (k := 0) (g_law_all_bars T) (d_law_all_bars T) sc_law_all_bars (fun _ _ _ _ _ _ us hl => match us, hl with | [], _ => rfl) (fun vs H Q E h => ?_) (fun cdv A outer s H vs Q E hr h => ?_)
  · obtain ⟨rfl, _⟩ := h
    rfl
  · obtain ⟨rfl, k⟩ := h
    exact ⟨_, (pss_one (ps_ret (pe_lst (pa_cons pe_str (pa_cons pe_str (pa_cons pe_str (pa_cons pe_str (pa_cons pe_str (pa_cons pe_str pa_nil))))))))), by show 6 ≤ sizeLine; decide, k⟩
def spOdd (P : Program) (w : World) (K : PySem.W.Frag) : Sp := fun vs H Q _ => ∃ (n : Nat) (d : Addr), vs = [.ref d] ∧ n < 1099511627776 ∧ Dr P w n H d ∧
  ∀ (v : V) (t : String) (H' : Hp), t ∈ kinds7 → TyX K H' v (.type t) → SmD d H H' → Dr P w (n + 1) H' d → Q v H'
theorem has_odd (T : Tx K mg) : Has P w K mg base "_law_odd" 4 ["_law_draw"] (spOdd P w K) := by
  have h_law_pick : Has P w K mg base "_law_pick" 3 ["_law_draw", "_law_some"] (spPick P w K) := has_pick T
  refine has_of (k := 3) (g_law_odd T) (d_law_odd T) sc_law_odd (fun _ _ _ _ _ _ us hl => match us, hl with | [_], _ => rfl) (fun vs H Q E h => ?_) (fun cdv A outer s H vs Q E hr h => ?_)
  · obtain ⟨n, d, rfl, _⟩ := h
    rfl
  · obtain ⟨n, d, rfl, hn, dr, k⟩ := h
    refine ⟨_, (pss_cons (ps_set (i := 1) sc_law_odd.nd rfl (Or.inl rfl) (pe_lst (pa_cons pe_non (pa_cons pe_bl (pa_cons pe_bl (pa_cons (pe_un un_neg pe_int) (pa_cons pe_int (pa_cons (pe_op op_pow pe_int pe_int) (pa_cons pe_str (pa_cons pe_str (pa_cons pe_str (pa_cons pe_str (pa_cons pe_str (pa_cons (pe_tup pa_nil) (pa_cons (pe_tup (pa_cons pe_int pa_nil)) (pa_cons (pe_lst pa_nil) (pa_cons (pe_lst (pa_cons pe_int pa_nil)) (pa_cons pe_dnewK (pa_cons (pe_disp (pps_cons pe_int pe_int pps_nil) (by rfl) (by rfl) (fun z => by cases z) (by decide)) pa_nil))))))))))))))))))) (pss_one (ps_ret (pe_has h_law_pick (hr.mono (by decide)) rfl (pa_cons (pv 0) (pa_cons (pe_op op_cat (pv 1) (pe_lst (pa_cons (pe_tup (pa_cons pe_str (pa_cons pe_int pa_nil))) (pa_cons (pe_tup (pa_cons pe_str (pa_cons pe_int pa_nil))) (pa_cons (pe_lst (pa_cons (pe_tup (pa_cons pe_str (pa_cons pe_int pa_nil))) pa_nil)) (pa_cons pe_str (pa_cons (pe_tup (pa_cons pe_str (pa_cons pe_str pa_nil))) (pa_cons (pe_un un_neg pe_int) (pa_cons pe_int (pa_cons pe_int (pa_cons pe_int pa_nil))))))))))) pa_nil)))))), ?_⟩
    refine ⟨_, rfl, _, _, rfl, rfl, ⟨by decide, by decide, by decide⟩, by decide, fun p1 q1 => ?_⟩
    generalize e1 : upd _ _ _ = H1; have s1 := new_s e1 q1; have f1 := new_f e1
    refine ⟨by decide, fun p2 q2 => ?_⟩
    generalize e2 : upd _ _ _ = H2; have s2 := new_s e2 q2; have f2 := new_f e2
    refine ⟨by decide, fun p3 q3 => ?_⟩
    generalize e3 : upd _ _ _ = H3; have s3 := new_s e3 q3; have f3 := new_f e3
    refine ⟨by decide, fun p4 q4 => ?_⟩
    generalize e4 : upd _ _ _ = H4; have s4 := new_s e4 q4; have f4 := new_f e4
    refine fun p5 q5 => ?_
    generalize e5 : upd _ _ _ = H5; have s5 := new_s e5 q5; have f5 := new_f e5
    refine fun p6 q6 => ⟨upd_same, [(.inl 1, .int 2)], rfl, by decide, ?_⟩
    rw [upd_upd]
    generalize e6 : upd _ _ _ = H6; have s6 := new_s e6 q6; have f6 := new_f e6
    refine ⟨by show 17 ≤ sizeLine; decide, fun p7 q7 => ?_⟩
    generalize e7 : upd _ _ _ = H7; have s7 := new_s e7 q7; have f7 := new_f e7
    obtain ⟨xs, f7, hxl, hx⟩ : ∃ xs : List V, H7 p7 = some (.lst xs) ∧ xs.length = 17 ∧ ∀ v ∈ xs, ∃ t ∈ kinds7, TyX K H6 v (.type t) := by
      refine ⟨_, f7, rfl, fun v hv => ?_⟩
      simp only [List.mem_cons, List.not_mem_nil, or_false] at hv
      have k5 := Kp.of s6
      have k4 := (Kp.of s5).trans k5
      have k3 := (Kp.of s4).trans k4
      have k2 := (Kp.of s3).trans k3
      have k1 := (Kp.of s2).trans k2
      rcases hv with rfl | rfl | rfl | rfl | rfl | rfl | rfl | rfl | rfl | rfl | rfl | rfl | rfl | rfl | rfl | rfl | rfl
      · exact ⟨_, by decide, .base .non⟩
      · exact ⟨_, by decide, .base (.bl _)⟩
      · exact ⟨_, by decide, .base (.bl _)⟩
      · exact ⟨_, by decide, .base (.int _)⟩
      · exact ⟨_, by decide, .base (.int _)⟩
      · exact ⟨_, by decide, .base (.int _)⟩
      · exact ⟨_, by decide, .base (.str _)⟩
      · exact ⟨_, by decide, .base (.str _)⟩
      · exact ⟨_, by decide, .base (.str _)⟩
      · exact ⟨_, by decide, .base (.str _)⟩
      · exact ⟨_, by decide, .base (.str _)⟩
      · exact ⟨_, by decide, .base (.tup (k1.tup f1))⟩
      · exact ⟨_, by decide, .base (.tup (k2.tup f2))⟩
      · exact ⟨_, by decide, .base (.lst (k3.lst f3))⟩
      · exact ⟨_, by decide, .base (.lst (k4.lst f4))⟩
      · exact ⟨_, by decide, .base (.dK (k5.dK f5))⟩
      · exact ⟨_, by decide, .base (.dK f6)⟩
    refine ⟨_, rfl, _, rfl, by decide, fun p8 q8 => ?_⟩
    generalize e8 : upd _ _ _ = H8; have s8 := new_s e8 q8; have f8 := new_f e8
    refine ⟨by decide, fun p9 q9 => ?_⟩
    generalize e9 : upd _ _ _ = H9; have s9 := new_s e9 q9; have f9 := new_f e9
    refine ⟨by decide, fun p10 q10 => ?_⟩
    generalize e10 : upd _ _ _ = H10; have s10 := new_s e10 q10; have f10 := new_f e10
    refine ⟨by show 1 ≤ sizeLine; decide, fun p11 q11 => ?_⟩
    generalize e11 : upd _ _ _ = H11; have s11 := new_s e11 q11; have f11 := new_f e11
    refine ⟨by decide, fun p12 q12 => ?_⟩
    generalize e12 : upd _ _ _ = H12; have s12 := new_s e12 q12; have f12 := new_f e12
    refine ⟨_, rfl, by show 9 ≤ sizeLine; decide, fun p13 q13 => ?_⟩
    generalize e13 : upd _ _ _ = H13; have s13 := new_s e13 q13; have f13 := new_f e13
    obtain ⟨ys, f13, hyl, hy⟩ : ∃ ys : List V, H13 p13 = some (.lst ys) ∧ ys.length = 9 ∧ ∀ v ∈ ys, ∃ t ∈ kinds7, TyX K H12 v (.type t) := by
      refine ⟨_, f13, rfl, fun v hv => ?_⟩
      simp only [List.mem_cons, List.not_mem_nil, or_false] at hv
      have k11 := Kp.of s12
      have k10 := (Kp.of s11).trans k11
      have k9 := (Kp.of s10).trans k10
      have k8 := (Kp.of s9).trans k9
      rcases hv with rfl | rfl | rfl | rfl | rfl | rfl | rfl | rfl | rfl
      · exact ⟨_, by decide, .base (.tup (k8.tup f8))⟩
      · exact ⟨_, by decide, .base (.tup (k9.tup f9))⟩
      · exact ⟨_, by decide, .base (.lst (k11.lst f11))⟩
      · exact ⟨_, by decide, .base (.str _)⟩
      · exact ⟨_, by decide, .base (.tup f12)⟩
      · exact ⟨_, by decide, .base (.int _)⟩
      · exact ⟨_, by decide, .base (.int _)⟩
      · exact ⟨_, by decide, .base (.int _)⟩
      · exact ⟨_, by decide, .base (.int _)⟩
    have s712 : Same H7 H13 := (((((s8.trans s9).trans s10).trans s11).trans s12).trans s13)
    have s613 : Same H6 H13 := s7.trans s712
    refine ⟨p7, p13, xs, ys, rfl, rfl, s712 _ _ f7, f13, by rw [hxl, hyl]; show 26 ≤ sizeLine; decide, fun p14 q14 => ?_⟩
    generalize e14 : upd _ _ _ = H14; have s14 := new_s e14 q14; have f14 := new_f e14
    have sall : Same H H14 := (((((((s1.trans s2).trans s3).trans s4).trans s5).trans s6).trans s613).trans s14)
    refine ⟨n, d, hn, dr.same sall, .inl ⟨p14, xs ++ ys, rfl, SqL.of f14, by rw [List.length_append, hxl, hyl]; decide, by rw [List.length_append, hxl, hyl]; decide, fun i v H' hi sm dr' => ?_⟩⟩
    have hk : Kp H14 H' := (dr.same sall).kp sm
    have hv : ∃ t ∈ kinds7, TyX K H' v (.type t) := by
      rcases List.mem_append.mp (List.mem_of_getElem? hi) with h | h
      · obtain ⟨t, m, ty⟩ := hx v h
        exact ⟨t, m, TyX.kp (TyX.kp ty (Kp.of (s613.trans s14))) hk⟩
      · obtain ⟨t, m, ty⟩ := hy v h
        exact ⟨t, m, TyX.kp (TyX.kp ty (Kp.of (s13.trans s14))) hk⟩
    obtain ⟨t, m, ty⟩ := hv
    exact k v t H' m ty (fun b o nb e => sm b o nb (sall _ _ e)) dr'
end

end HL

namespace HL
open PySem PySem.Spec PyProof.Rows L2


section
variable {P : Program} {w : World} {K : PySem.W.Frag} {mg : Str → Option Value} {base : Heap}
/-- the fields and their words -/
def ChAt (H : Hp) (l : Addr) : Prop := ∃ t1 t2 t3 t4 t5 a1 a2 a3 a4 a5 : Addr, H l = some (.lst [.ref t1, .ref t2, .ref t3, .ref t4, .ref t5]) ∧
  (H t1 = some (.tup [.str "held", .ref a1]) ∧ H a1 = some (.lst (held2.map V.str))) ∧ (H t2 = some (.tup [.str "each", .ref a2]) ∧ H a2 = some (.lst (each2.map V.str))) ∧
  (H t3 = some (.tup [.str "lifted", .ref a3]) ∧ H a3 = some (.lst (lift2.map V.str))) ∧ (H t4 = some (.tup [.str "ends", .ref a4]) ∧ H a4 = some (.lst (ends3.map V.str))) ∧
  (H t5 = some (.tup [.str "works", .ref a5]) ∧ H a5 = some (.lst (work3.map V.str)))
def chs : List (Str × List Str) := [("held", held2), ("each", each2), ("lifted", lift2), ("ends", ends3), ("works", work3)]
theorem ChAt.kp {H H' : Hp} {l : Addr} (h : ChAt H l) (e : Kp H H') : ChAt H' l := by
  obtain ⟨t1, t2, t3, t4, t5, a1, a2, a3, a4, a5, h, ⟨x1, y1⟩, ⟨x2, y2⟩, ⟨x3, y3⟩, ⟨x4, y4⟩, ⟨x5, y5⟩⟩ := h
  exact ⟨t1, t2, t3, t4, t5, a1, a2, a3, a4, a5, e.lst h, ⟨e.tup x1, e.lst y1⟩, ⟨e.tup x2, e.lst y2⟩, ⟨e.tup x3, e.lst y3⟩, ⟨e.tup x4, e.lst y4⟩, ⟨e.tup x5, e.lst y5⟩⟩
/-- read as a row -/
theorem ChAt.row {H : Hp} {l : Addr} (h : ChAt H l) : ∃ xs : List V, H l = some (.lst xs) ∧ xs.length = 5 ∧ ∀ (i : Nat) (x : V), xs[i]? = some x → ∃ (t a : Addr) (f : Str) (ws : List Str), x = .ref t ∧ chs[i]? = some (f, ws) ∧ H t = some (.tup [.str f, .ref a]) ∧ H a = some (.lst (ws.map V.str)) := by
  obtain ⟨t1, t2, t3, t4, t5, a1, a2, a3, a4, a5, h, ⟨x1, y1⟩, ⟨x2, y2⟩, ⟨x3, y3⟩, ⟨x4, y4⟩, ⟨x5, y5⟩⟩ := h
  refine ⟨_, h, rfl, fun i x hx => ?_⟩
  match i, hx with
  | 0, hx => cases hx; exact ⟨t1, a1, _, _, rfl, rfl, x1, y1⟩
  | 1, hx => cases hx; exact ⟨t2, a2, _, _, rfl, rfl, x2, y2⟩
  | 2, hx => cases hx; exact ⟨t3, a3, _, _, rfl, rfl, x3, y3⟩
  | 3, hx => cases hx; exact ⟨t4, a4, _, _, rfl, rfl, x4, y4⟩
  | 4, hx => cases hx; exact ⟨t5, a5, _, _, rfl, rfl, x5, y5⟩
  | i + 5, hx => simp at hx
def spCh : Sp := fun vs H Q _ => vs = [] ∧ ∀ (l : Addr) (H' : Hp), Same H H' → H l = none → ChAt H' l → Q (.ref l) H'
theorem has_ch (T : Tx K mg) : Has P w K mg base "_law_choices" 1 [] spCh := by
  refine has_of (k := 0) (g_law_choices T) (d_law_choices T) sc_law_choices (fun _ _ _ _ _ _ us hl => match us, hl with | [], _ => rfl) (fun vs H Q E h => ?_) (fun cdv A outer s H vs Q E hr h => ?_)
  · obtain ⟨rfl, _⟩ := h
    rfl
  · obtain ⟨rfl, k⟩ := h
    refine ⟨_, (pss_cons (ps_set (i := 0) sc_law_choices.nd rfl (Or.inl rfl) (pe_lst (pa_cons (pe_tup (pa_cons pe_str (pa_cons (pe_lst (pa_cons pe_str (pa_cons pe_str pa_nil))) pa_nil))) (pa_cons (pe_tup (pa_cons pe_str (pa_cons (pe_lst (pa_cons pe_str (pa_cons pe_str pa_nil))) pa_nil))) (pa_cons (pe_tup (pa_cons pe_str (pa_cons (pe_lst (pa_cons pe_str (pa_cons pe_str pa_nil))) pa_nil))) pa_nil))))) (pss_one (ps_ret (pe_op op_cat (pv 0) (pe_lst (pa_cons (pe_tup (pa_cons pe_str (pa_cons (pe_lst (pa_cons pe_str (pa_cons pe_str (pa_cons pe_str pa_nil)))) pa_nil))) (pa_cons (pe_tup (pa_cons pe_str (pa_cons (pe_lst (pa_cons pe_str (pa_cons pe_str (pa_cons pe_str pa_nil)))) pa_nil))) pa_nil))))))), ?_⟩
    refine ⟨by decide, fun p1 q1 => ?_⟩
    generalize e1 : upd _ _ _ = H1; have s1 := new_s e1 q1; have f1 := new_f e1
    refine ⟨by show 2 ≤ sizeLine; decide, fun p2 q2 => ?_⟩
    generalize e2 : upd _ _ _ = H2; have s2 := new_s e2 q2; have f2 := new_f e2
    refine ⟨by decide, fun p3 q3 => ?_⟩
    generalize e3 : upd _ _ _ = H3; have s3 := new_s e3 q3; have f3 := new_f e3
    refine ⟨by show 2 ≤ sizeLine; decide, fun p4 q4 => ?_⟩
    generalize e4 : upd _ _ _ = H4; have s4 := new_s e4 q4; have f4 := new_f e4
    refine ⟨by decide, fun p5 q5 => ?_⟩
    generalize e5 : upd _ _ _ = H5; have s5 := new_s e5 q5; have f5 := new_f e5
    refine ⟨by show 2 ≤ sizeLine; decide, fun p6 q6 => ?_⟩
    generalize e6 : upd _ _ _ = H6; have s6 := new_s e6 q6; have f6 := new_f e6
    refine ⟨by show 3 ≤ sizeLine; decide, fun p7 q7 => ?_⟩
    generalize e7 : upd _ _ _ = H7; have s7 := new_s e7 q7; have f7 := new_f e7
    refine ⟨_, rfl, by decide, fun p8 q8 => ?_⟩
    generalize e8 : upd _ _ _ = H8; have s8 := new_s e8 q8; have f8 := new_f e8
    refine ⟨by show 2 ≤ sizeLine; decide, fun p9 q9 => ?_⟩
    generalize e9 : upd _ _ _ = H9; have s9 := new_s e9 q9; have f9 := new_f e9
    refine ⟨by decide, fun p10 q10 => ?_⟩
    generalize e10 : upd _ _ _ = H10; have s10 := new_s e10 q10; have f10 := new_f e10
    refine ⟨by show 2 ≤ sizeLine; decide, fun p11 q11 => ?_⟩
    generalize e11 : upd _ _ _ = H11; have s11 := new_s e11 q11; have f11 := new_f e11
    refine ⟨by show 2 ≤ sizeLine; decide, fun p12 q12 => ?_⟩
    generalize e12 : upd _ _ _ = H12; have s12 := new_s e12 q12; have f12 := new_f e12
    have k11 := Kp.of s12
    have k10 := (Kp.of s11).trans k11
    have k9 := (Kp.of s10).trans k10
    have k8 := (Kp.of s9).trans k9
    have k7 := (Kp.of s8).trans k8
    refine ⟨p7, p12, _, _, rfl, rfl, k7.lst f7, f12, by show 5 ≤ sizeLine; decide, fun p13 q13 => ?_⟩
    generalize e13 : upd _ _ _ = H13; have s13 := new_s e13 q13; have f13 := new_f e13
    have j12 := Kp.of s13
    have j11 := k11.trans j12
    have j10 := k10.trans j12
    have j9 := k9.trans j12
    have j8 := k8.trans j12
    have j7 := k7.trans j12
    have j6 := (Kp.of s7).trans j7
    have j5 := (Kp.of s6).trans j6
    have j4 := (Kp.of s5).trans j5
    have j3 := (Kp.of s4).trans j4
    have j2 := (Kp.of s3).trans j3
    have j1 := (Kp.of s2).trans j2
    have sall : Same H H12 := (((((((((((s1.trans s2).trans s3).trans s4).trans s5).trans s6).trans s7).trans s8).trans s9).trans s10).trans s11).trans s12)
    exact k p13 H13 (sall.trans s13) (same_none sall q13) ⟨p2, p4, p6, p9, p11, p1, p3, p5, p8, p10, f13, ⟨j2.tup f2, j1.lst f1⟩, ⟨j4.tup f4, j3.lst f3⟩, ⟨j6.tup f6, j5.lst f5⟩, ⟨j9.tup f9, j8.lst f8⟩, ⟨j11.tup f11, j10.lst f10⟩⟩
/-! ### fields in a dict -/
def fkv (b : Bk) (p : Addr) : List (Key × V) := [(.inr "held", .str b.held), (.inr "each", .str b.each), (.inr "lifted", .str b.lifted), (.inr "ends", .str b.ends), (.inr "works", .str b.works), (.inr "bars", .ref p)]
def FAt (H : Hp) (d p : Addr) (b : Bk) : Prop := H d = some (.dK (fkv b p)) ∧ H p = some (.lst (b.bars.map V.str))
theorem FAt.kp {H H' : Hp} {d p : Addr} {b : Bk} (h : FAt H d p b) (e : Kp H H') : FAt H' d p b := ⟨e.dK h.1, e.lst h.2⟩
theorem FAt.held {H : Hp} {d p : Addr} {b : Bk} (h : FAt H d p b) : DGet H d (.str "held") (some (.str b.held)) := DGet.k (k := .inr "held") h.1
theorem FAt.each {H : Hp} {d p : Addr} {b : Bk} (h : FAt H d p b) : DGet H d (.str "each") (some (.str b.each)) := DGet.k (k := .inr "each") h.1
theorem FAt.lifted {H : Hp} {d p : Addr} {b : Bk} (h : FAt H d p b) : DGet H d (.str "lifted") (some (.str b.lifted)) := DGet.k (k := .inr "lifted") h.1
theorem FAt.ends {H : Hp} {d p : Addr} {b : Bk} (h : FAt H d p b) : DGet H d (.str "ends") (some (.str b.ends)) := DGet.k (k := .inr "ends") h.1
theorem FAt.works {H : Hp} {d p : Addr} {b : Bk} (h : FAt H d p b) : DGet H d (.str "works") (some (.str b.works)) := DGet.k (k := .inr "works") h.1
theorem FAt.bars {H : Hp} {d p : Addr} {b : Bk} (h : FAt H d p b) : DGet H d (.str "bars") (some (.ref p)) := DGet.k (k := .inr "bars") h.1
/-- a book of the fields -/
def spBook (K : PySem.W.Frag) : Sp := fun vs H Q _ => ∃ (d p : Addr) (b : Bk), vs = [.ref d] ∧ FAt H d p b ∧ b.Ok ∧ ∀ (a : Addr) (ys : List Str) (H' : Hp), Same H H' → H a = none → ys.Perm b.bars → ({ b with bars := ys } : Bk).Good → BookAt K H' a { b with bars := ys } → Q (.ref a) H'
theorem has_book (T : Tx K mg) : Has P w K mg base "_law_book" 5 ["_law_fields"] (spBook K) := by
  refine has_of (k := 4) (g_law_book T) (d_law_book T) sc_law_book (fun _ _ _ _ _ _ us hl => match us, hl with | [_], _ => rfl) (fun vs H Q E h => ?_) (fun cdv A outer s H vs Q E hr h => ?_)
  · obtain ⟨d, p, b, rfl, _⟩ := h
    rfl
  · obtain ⟨d, p, b, rfl, hf, ok, k⟩ := h
    have hu := hu_of hr
    refine ⟨_, (pss_cons (ps_set (i := 1) sc_law_book.nd rfl (Or.inl rfl) (pe_lst (pa_cons (pe_dget hu (pv 0) pe_str (fun _ _ => rfl)) pa_nil))) (pss_one (ps_ret (pe_newB T kb_held_each_lifted_ends_works_bars (hr.mono (by decide)) rfl (pk_cons (pe_dget hu (pv 0) pe_str (fun _ _ => rfl)) (pk_cons (pe_dget hu (pv 0) pe_str (fun _ _ => rfl)) (pk_cons (pe_dget hu (pv 0) pe_str (fun _ _ => rfl)) (pk_cons (pe_dget hu (pv 0) pe_str (fun _ _ => rfl)) (pk_cons (pe_dget hu (pv 0) pe_str (fun _ _ => rfl)) (pk_cons (pe_ix ix_list (pv 1) pe_int (fun _ _ => rfl)) pk_nil)))))))))), ?_⟩
    refine ⟨_, rfl, d, _, rfl, hf.bars, by show 1 ≤ sizeLine; decide, fun p1 q1 => ?_⟩
    generalize e1 : upd _ _ _ = H1; have s1 := new_s e1 q1; have f1 := new_f e1
    have hf1 := hf.kp (Kp.of s1)
    refine ⟨_, rfl, d, _, rfl, hf1.held, _, rfl, d, _, rfl, hf1.each, _, rfl, d, _, rfl, hf1.lifted, _, rfl, d, _, rfl, hf1.ends, _, rfl, d, _, rfl, hf1.works, _, rfl, p1, _, 0, _, rfl, rfl, SqL.of f1, rfl, ?_⟩
    exact mk_ok b p rfl (fun x => rfl) ok (.inl hf1.2) fun c ys H' sm hc pm gd hb' => k c ys H' (s1.trans sm) (same_none s1 hc) pm gd hb'
end

end HL

namespace HL
open PySem PySem.Spec PyProof.Rows L2


section
variable {P : Program} {w : World} {K : PySem.W.Frag} {mg : Str → Option Value} {base : Heap}
theorem SmD.sm {d : Addr} {H H1 H2 : Hp} (a : SmD d H H1) (b : Same H1 H2) : SmD d H H2 := fun x o n e => b x o (a x o n e)
theorem chs_some {i : Nat} {f : Str} {ws : List Str} (h : chs[i]? = some (f, ws)) : 0 < ws.length ∧ ws.length < 1000 := by
  have m := List.mem_of_getElem? h
  simp only [chs, List.mem_cons, List.not_mem_nil, or_false, Prod.mk.injEq] at m
  rcases m with ⟨_, rfl⟩ | ⟨_, rfl⟩ | ⟨_, rfl⟩ | ⟨_, rfl⟩ | ⟨_, rfl⟩
  all_goals decide
theorem paired_imp {α β : Type} {R S : α → β → Prop} (h : ∀ a b, R a b → S a b) : ∀ {l : List α} {m : List β}, Paired R l m → Paired S l m
  | _, _, .nil => .nil
  | _, _, .cons r t => .cons (h _ _ r) (paired_imp h t)
theorem paired_snoc {α β : Type} {R : α → β → Prop} {a : α} {b : β} (r : R a b) : ∀ {l : List α} {m : List β}, Paired R l m → Paired R (l ++ [a]) (m ++ [b])
  | _, _, .nil => .cons r .nil
  | _, _, .cons q t => .cons q (paired_snoc r t)
theorem SmD.upd {d D : Addr} {H H1 : Hp} {o : HO} (a : SmD d H H1) (h : H D = none) : SmD d H (upd H1 D o) := fun x u n e => by
  rw [upd_ne (ne_of_none e h)]
  exact a x u n e
theorem smd_none {n : Nat} {d f : Addr} {H H2 : Hp} (sm : SmD d H H2) (dr : Dr P w n H2 d) (h : H2 f = none) : H f = none := by
  have nf := dr.live h
  cases e : H f with
  | none => rfl
  | some o =>
    rw [sm f o nf e] at h
    cases h
def spAny (P : Program) (w : World) : Sp := fun vs H Q _ => ∃ (n : Nat) (d : Addr), vs = [.ref d] ∧ n + 20 < 1099511627776 ∧ Dr P w n H d ∧
  ∀ (f p : Addr) (b : Bk) (H' : Hp), b.Ok → FAt H' f p b → SmD d H H' → Dr P w (n + 11) H' d → H f = none → H p = none → Q (.ref f) H'
theorem has_any (T : Tx K mg) : Has P w K mg base "_law_any_fields" 4 ["_law_draw"] (spAny P w) := by
  have h_law_pick : Has P w K mg base "_law_pick" 3 ["_law_draw", "_law_some"] (spPick P w K) := has_pick T
  have h_law_take : Has P w K mg base "_law_take" 2 ["_law_draw", "_law_size"] (spTake P w) := has_take T
  have h_law_choices : Has P w K mg base "_law_choices" 1 [] spCh := has_ch T
  have h_law_all_bars : Has P w K mg base "_law_all_bars" 1 [] spAll := has_all T
  refine has_of (k := 3) (g_law_any_fields T) (d_law_any_fields T) sc_law_any_fields (fun _ _ _ _ _ _ us hl => match us, hl with | [_], _ => rfl) (fun vs H Q E h => ?_) (fun cdv A outer s H vs Q E hr h => ?_)
  · obtain ⟨n, d, rfl, _⟩ := h
    rfl
  · obtain ⟨n, d, rfl, hn, dr, k⟩ := h
    have hu := hu_of hr
    refine ⟨_, (pss_cons (ps_set (i := 1) sc_law_any_fields.nd rfl (Or.inl rfl) (pe_callTy (call_dictP rfl) (by rfl) (m_dict T) boot_dict (pa_cons (pe_lc (own := [("_law_field", 2), ("_law_words", 3)]) (g := gTup K 2 (gCons (gName 2) (gCons (gName 3) gNil))) (tt := tYes) (by rfl) sc_law_any_fields.nd (pi_list (pe_has0 h_law_choices (hr.mono (by decide)) rfl)) (blkOk_by (own := [("_law_field", 2), ("_law_words", 3)]) (N := N_law_any_fields) (sc := defScope s_law_any_fields) (by decide +kernel)) (fun _ _ _ _ _ => (pg_tup (by rfl) (pgs_cons (pg_name (i := 2) sc_law_any_fields.nd rfl (Or.inl rfl)) (pgs_cons (pg_name (i := 3) sc_law_any_fields.nd rfl (Or.inl rfl)) pgs_nil)))) (fun _ _ _ _ _ => pts_nil) (fun _ _ _ _ _ => (pe_tup (pa_cons (pv 2) (pa_cons (pe_has h_law_pick (hr.mono (by decide)) rfl (pa_cons (pv 0) (pa_cons (pv 3) pa_nil))) pa_nil))))) pa_nil))) (pss_cons (ps_dput hu (pv 1) pe_str (pe_lc (own := [("_law_word", 4)]) (g := gName 4) (by rfl) sc_law_any_fields.nd (pi_list (pe_has0 h_law_all_bars (hr.mono (by decide)) rfl)) (blkOk_by (own := [("_law_word", 4)]) (N := N_law_any_fields) (sc := defScope s_law_any_fields) (by decide +kernel)) (fun _ _ _ _ _ => (pg_name (i := 4) sc_law_any_fields.nd rfl (Or.inl rfl))) (fun _ _ _ _ _ => (pts_one (pt_cmpR op_eq (pe_has h_law_take (hr.mono (by decide)) rfl (pa_cons (pv 0) (pa_cons pe_int pa_nil))) pe_int (nomark _)))) (fun _ _ _ _ _ => (pv 4))) rfl) (pss_one (ps_ret (pv 1))))), ?_⟩
    refine ⟨rfl, fun l H1 s1 hl ch => ?_⟩
    obtain ⟨xs, hxs, hxl, row⟩ := ch.row
    have dr1 := dr.same s1
    refine ⟨l, rfl, ⟨_, SqL.of hxs⟩, fun D hD => lc_list (K := K) (a := l) (xs := xs) (fun i H' => ∃ (ps : List Addr) (kvs : List (Key × V)), H' D = some (.lst (ps.map V.ref)) ∧ ps.length = i ∧ kvs.length = i ∧ Paired (fun p kv => H' p = some (.tup [kV kv.1, kv.2])) ps kvs ∧
      (∀ (j : Nat) (kv : Key × V), kvs[j]? = some kv → ∃ (f : Str) (ws : List Str) (z : Str), chs[j]? = some (f, ws) ∧ z ∈ ws ∧ kv = (.inr f, .str z)) ∧ SmD d H1 H' ∧ Dr P w (n + i) H' d) ⟨[], [], upd_same, rfl, rfl, .nil, fun j kv h => by simp at h, .of (same_new hD), dr1.same (same_new hD)⟩ ?_ ?_ ?_⟩
    · rintro i H' _ ⟨ps, kvs, _, _, _, _, _, sm, _⟩
      exact SqL.of ((dr1.kp sm).lst hxs)
    · rintro i x H' hx ⟨ps, kvs, g1, g2, g3, g4, g5, sm, dr'⟩
      obtain ⟨t, a, f, ws, rfl, hc, ht, ha⟩ := row i x hx
      have kp := dr1.kp sm
      have hi : i < 5 := by
        have := (List.getElem?_eq_some_iff.mp hx).1
        omega
      refine ⟨t, _, rfl, .inl (.inl (kp.tup ht)), rfl, _, _, rfl, _, _, rfl, rfl, rfl, yes_ ⟨_, rfl, _, rfl, _, rfl, ?_⟩⟩
      refine ⟨n + i, d, by omega, dr', .inl ⟨a, _, rfl, SqL.of (kp.lst ha), by rw [List.length_map]; exact (chs_some hc).1, by rw [List.length_map]; exact Nat.lt_trans (chs_some hc).2 (by decide), fun j v H2 hj sm2 dr2 => ?_⟩⟩
      obtain ⟨z, hz, rfl⟩ := List.mem_map.mp (List.mem_of_getElem? hj)
      refine ⟨by show 2 ≤ sizeLine; decide, fun p1 q1 => ?_⟩
      generalize e1 : upd _ _ _ = H1; have s1 := new_s e1 q1; have f1 := new_f e1
      have hD2 := s1 _ _ ((dr'.kp sm2).lst g1)
      refine ⟨_, hD2, by rw [List.length_map, g2]; exact Nat.lt_trans hi (by decide), ps ++ [p1], kvs ++ [(.inr f, .str z)], by rw [upd_same, List.map_append]; rfl, by simp [g2], by simp [g3], paired_snoc ?_ (paired_imp (fun p kv e => ?_) g4), fun j' kv hj' => ?_, ((sm.trans sm2).sm s1).upd hD, ?_⟩
      · rw [upd_ne (ne_of f1 hD2 (by intro z; cases z))]
        exact f1
      · have e2 := s1 _ _ ((dr'.kp sm2).tup e)
        rw [upd_ne (ne_of e2 hD2 (by intro z; cases z))]
        exact e2
      · by_cases hlt : j' < kvs.length
        · rw [List.getElem?_append_left hlt] at hj'
          exact g5 j' kv hj'
        · have hj2 := (List.getElem?_eq_some_iff.mp hj').1
          rw [List.length_append, List.length_singleton] at hj2
          have ej : j' = i := by omega
          subst ej
          rw [List.getElem?_append_right (by omega), g3, Nat.sub_self] at hj'
          cases hj'
          exact ⟨f, ws, z, hc, hz, rfl⟩
      · rw [← Nat.add_assoc]
        exact (dr2.same s1).put hD2 (fun _ z => by cases z)
    · rintro H2 ⟨ps, kvs, g1, g2, g3, g4, g5, sm, dr2⟩
      rw [hxl] at g2 g3 dr2
      refine ⟨D, ps, kvs, rfl, SqL.of g1, paired_imp (fun p kv e => .inl (.inl e)) g4, fun f q3 => ?_⟩
      obtain ⟨z1, z2, z3, z4, z5, m1, m2, m3, m4, m5, ek⟩ : ∃ z1 z2 z3 z4 z5 : Str, z1 ∈ held2 ∧ z2 ∈ each2 ∧ z3 ∈ lift2 ∧ z4 ∈ ends3 ∧ z5 ∈ work3 ∧ kvs = [(.inr "held", .str z1), (.inr "each", .str z2), (.inr "lifted", .str z3), (.inr "ends", .str z4), (.inr "works", .str z5)] := by
        match kvs, g3, g5 with
        | [a, b, c, e, g], _, g5 =>
          obtain ⟨f1, w1, z1, c1, m1, rfl⟩ := g5 0 a rfl
          obtain ⟨f2, w2, z2, c2, m2, rfl⟩ := g5 1 b rfl
          obtain ⟨f3, w3, z3, c3, m3, rfl⟩ := g5 2 c rfl
          obtain ⟨f4, w4, z4, c4, m4, rfl⟩ := g5 3 e rfl
          obtain ⟨f5, w5, z5, c5, m5, rfl⟩ := g5 4 g rfl
          cases c1
          cases c2
          cases c3
          cases c4
          cases c5
          exact ⟨z1, z2, z3, z4, z5, m1, m2, m3, m4, m5, rfl⟩
      subst ek
      generalize e3 : upd H2 f (.dK (mergeK [] _)) = H3
      have s3 := new_s e3 q3
      have f3 : H3 f = some (.dK [(.inr "held", .str z1), (.inr "each", .str z2), (.inr "lifted", .str z3), (.inr "ends", .str z4), (.inr "works", .str z5)]) := new_f e3
      have hf0 : H f = none := smd_none (fun b o nb e => sm b o nb (s1 _ _ e)) dr2 q3
      have sm3 : SmD d H H3 := fun b o nb e => s3 _ _ (sm b o nb (s1 _ _ e))
      have dr3 := dr2.same s3
      refine ⟨rfl, fun l4 q4 => ?_⟩
      generalize e4 : upd _ _ _ = H4; have s4 := new_s e4 q4; have f4 := new_f e4
      have dr4 := dr3.same s4
      refine ⟨l4, rfl, ⟨_, SqL.of f4⟩, fun D2 hD2 => lc_list (K := K) (a := l4) (xs := bars6.map V.str) (fun i H' => ∃ acc : List Str, H' D2 = some (.lst (acc.map V.str)) ∧ acc.Sublist (bars6.take i) ∧ SmD d H4 H' ∧ Dr P w (n + 5 + i) H' d) ⟨[], upd_same, List.Sublist.refl _, .of (same_new hD2), dr4.same (same_new hD2)⟩ ?_ ?_ ?_⟩
      · rintro i H' _ ⟨acc, _, _, sm', _⟩
        exact SqL.of ((dr4.kp sm').lst f4)
      · rintro i x H' hx ⟨acc, a1, a2, sm', dr'⟩
        obtain ⟨z, hz, rfl⟩ := List.mem_map.mp (List.mem_of_getElem? hx)
        have hi : i < 6 := by
          have := (List.getElem?_eq_some_iff.mp hx).1
          rw [List.length_map] at this
          exact this
        have hx2 : bars6[i]? = some z := by
          rw [List.getElem?_map] at hx
          cases e : bars6[i]? with
          | none => rw [e] at hx; cases hx
          | some y => rw [e] at hx; cases hx; rfl
        refine ⟨rfl, _, rfl, n + 5 + i, d, 2, rfl, by decide, by decide, by omega, dr', fun kk H5 k0 k1 sm5 dr5 => ⟨rfl, _, rfl, ite2 (fun _ => ?_) (fun _ => ?_)⟩⟩
        · have a3 := (dr'.kp sm5).lst a1
          have hlen : acc.length ≤ 6 := by
            have := a2.length_le
            rw [List.length_take] at this
            omega
          refine ⟨_, rfl, _, a3, by rw [List.length_map]; exact Nat.lt_of_le_of_lt hlen (by decide), acc ++ [z], by rw [upd_same, List.map_append]; rfl, ?_, (sm'.trans sm5).upd hD2, (dr5.put a3 (fun _ z => by cases z)).mono (by omega)⟩
          rw [take_succ' hx2]
          exact a2.append (List.Sublist.refl _)
        · refine ⟨acc, (dr'.kp sm5).lst a1, ?_, sm'.trans sm5, dr5.mono (by omega)⟩
          rw [take_succ' hx2]
          exact a2.trans (List.sublist_append_left _ _)
      · rintro H5 ⟨acc, a1, a2, sm5, dr5⟩
        have a2 : acc.Sublist bars6 := a2
        have f5 := (dr4.kp sm5).dK (s4 _ _ f3)
        have nfD : f ≠ D2 := ne_of f5 a1 (by intro z; cases z)
        refine ⟨_, rfl, f, _, rfl, DPut.k (k := .inr "bars") f5 (by show 5 < sizeLine; decide), ?_⟩
        refine ⟨_, rfl, k f D2 ⟨z1, z2, z3, z4, z5, acc⟩ _ ⟨m1, m2, m3, m4, m5, fun z hz => a2.subset hz, a2.nodup (by decide)⟩ ⟨upd_same, by rw [upd_ne nfD.symm]; exact a1⟩ ?_ ?_ ?_ ?_⟩
        · intro b o nb e
          rw [upd_ne (ne_of_none e hf0)]
          exact sm5 b o nb (s4 _ _ (sm3 b o nb e))
        · exact (dr5.put f5 (fun _ z => by cases z)).mono (by show n + 5 + 6 ≤ n + 11; omega)
        · exact hf0
        · exact smd_none (sm3.sm s4) dr4 hD2
end

end HL

namespace HL
open PySem PySem.Spec PyProof.Rows L2


section
variable {P : Program} {w : World} {K : PySem.W.Frag} {mg : Str → Option Value} {base : Heap}
/-! ### what is told, as data -/
def told (b : Bk) : PyData := .list [.str b.held, .str b.each, .str b.lifted, .str b.ends, .str b.works, .tuple (b.bars.map PyData.str)]
def voc : List Str := held2 ++ each2 ++ lift2 ++ ends3 ++ work3 ++ bars6
theorem voc_len : ∀ z ∈ voc, (reprText z).length ≤ 40 := by decide +kernel
theorem showable_strs : ∀ zs : List Str, PyData.showableAll (zs.map PyData.str) = true
  | [] => rfl
  | z :: r => by
    rw [List.map_cons, PyData.showableAll, showable_strs r]
    rfl
theorem nodict_strs : ∀ zs : List Str, PyData.hasDictAll (zs.map PyData.str) = false
  | [] => rfl
  | z :: r => by
    rw [List.map_cons, PyData.hasDictAll, nodict_strs r]
    rfl
theorem told_show (b : Bk) : (told b).showable = true := by
  simp only [told, PyData.showable, PyData.showableAll, showable_strs]
  rfl
theorem told_nodict (b : Bk) : (told b).hasDict = false := by
  simp only [told, PyData.hasDict, PyData.hasDictAll, nodict_strs]
  rfl
theorem told_depth (b : Bk) : (told b).depth ≤ 60 := by
  simp only [told, PyData.depth, PyData.depthAll, depthAll_strs]
  decide
theorem five_voc {b : Bk} (h : b.Ok) : b.held ∈ voc ∧ b.each ∈ voc ∧ b.lifted ∈ voc ∧ b.ends ∈ voc ∧ b.works ∈ voc := by
  unfold voc
  simp only [List.mem_append]
  exact ⟨.inl (.inl (.inl (.inl (.inl h.h)))), .inl (.inl (.inl (.inl (.inr h.e)))), .inl (.inl (.inl (.inr h.l))), .inl (.inl (.inr h.n)), .inl (.inr h.k)⟩
theorem bars_voc {b : Bk} (h : b.Ok) : ∀ z ∈ b.bars, z ∈ voc := fun z hz => by
  unfold voc
  simp only [List.mem_append]
  exact .inr (h.r z hz)
theorem told_len {b : Bk} (h : b.Ok) : (told b).shown.length ≤ sizeLine := by
  obtain ⟨h1, h2, h3, h4, h5⟩ := five_voc h
  have ht : (PyData.shown (.tuple (b.bars.map PyData.str))).length ≤ 400 := by
    rw [PyData.shown, shownAll_map, List.map_map]
    have q := piled_le (n := 40) (b.bars.map (PyData.shown ∘ PyData.str)) fun t ht => by
      obtain ⟨z, hz, rfl⟩ := List.mem_map.mp ht
      exact voc_len z (bars_voc h z hz)
    have := tupleText_le (b.bars.map (PyData.shown ∘ PyData.str))
    rw [List.length_map] at q
    have := h.few
    omega
  have q := piled_le (n := 400) [reprText b.held, reprText b.each, reprText b.lifted, reprText b.ends, reprText b.works, PyData.shown (.tuple (b.bars.map PyData.str))] fun t ht2 => by
    simp only [List.mem_cons, List.not_mem_nil, or_false] at ht2
    rcases ht2 with rfl | rfl | rfl | rfl | rfl | rfl
    · exact Nat.le_trans (voc_len _ h1) (by decide)
    · exact Nat.le_trans (voc_len _ h2) (by decide)
    · exact Nat.le_trans (voc_len _ h3) (by decide)
    · exact Nat.le_trans (voc_len _ h4) (by decide)
    · exact Nat.le_trans (voc_len _ h5) (by decide)
    · exact ht
  have l := listText_le [reprText b.held, reprText b.each, reprText b.lifted, reprText b.ends, reprText b.works, PyData.shown (.tuple (b.bars.map PyData.str))]
  have e : (told b).shown = listText [reprText b.held, reprText b.each, reprText b.lifted, reprText b.ends, reprText b.works, PyData.shown (.tuple (b.bars.map PyData.str))] := by
    simp only [told, PyData.shown, PyData.shownAll]
  rw [e]
  refine Nat.le_trans l (Nat.le_trans (Nat.add_le_add_right q 2) ?_)
  show 6 * (400 + 2) + 2 ≤ sizeLine
  decide
theorem FAt.get {H : Hp} {d p : Addr} {b : Bk} (h : FAt H d p b) {i : Nat} {f : Str} {ws : List Str} (e : chs[i]? = some (f, ws)) : ∃ z, b.five[i]? = some z ∧ DGet H d (.str f) (some (.str z)) := by
  match i, e with
  | 0, e => cases e; exact ⟨_, rfl, h.held⟩
  | 1, e => cases e; exact ⟨_, rfl, h.each⟩
  | 2, e => cases e; exact ⟨_, rfl, h.lifted⟩
  | 3, e => cases e; exact ⟨_, rfl, h.ends⟩
  | 4, e => cases e; exact ⟨_, rfl, h.works⟩
  | i + 5, e => simp [chs] at e
def spTold (K : PySem.W.Frag) : Sp := fun vs H Q _ => ∃ (a d p : Addr) (b bf : Bk), vs = [.ref a, .ref d] ∧ BookAt K H a b ∧ b.Good ∧ FAt H d p bf ∧ bf.Ok ∧ b.five = bf.five ∧ b.bars.Perm bf.bars ∧ ∀ H', Same H H' → Q (.bl true) H'
theorem has_told (T : Tx K mg) : HasG P w K mg base "_law_is_told" 3 ["_law_made", "_law_fields"] (spTold K) := by
  have h_law_choices : Has P w K mg base "_law_choices" 1 [] spCh := has_ch T
  have a_Book_held := a_held (P := P) (w := w) (base := base) T
  have a_Book_each := a_each (P := P) (w := w) (base := base) T
  have a_Book_lifted := a_lifted (P := P) (w := w) (base := base) T
  have a_Book_ends := a_ends (P := P) (w := w) (base := base) T
  have a_Book_works := a_works (P := P) (w := w) (base := base) T
  have a_Book_bars := a_bars (P := P) (w := w) (base := base) T
  refine hasg_of (k := 2) (g_law_is_told T) (d_law_is_told T) sc_law_is_told (fun _ _ _ _ _ _ us hl => match us, hl with | [_, _], _ => rfl) (fun vs H Q E h => ?_) (fun cdv A outer s H vs Q E gd hr h => ?_)
  · obtain ⟨a, d, p, b, bf, rfl, _⟩ := h
    rfl
  · obtain ⟨a, d, p, b, bf, rfl, hb, hg, hf, ok, ef, pm, k⟩ := h
    have hu := hu_of hr
    refine ⟨_, (pss_cons (ps_set (i := 2) sc_law_is_told.nd rfl (Or.inl rfl) (pe_lst (pa_cons (pe_atP a_Book_held (cls_Book T) (pr_Book_held T) (hr.mono (by decide)) (pv 0)) (pa_cons (pe_atP a_Book_each (cls_Book T) (pr_Book_each T) (hr.mono (by decide)) (pv 0)) (pa_cons (pe_atP a_Book_lifted (cls_Book T) (pr_Book_lifted T) (hr.mono (by decide)) (pv 0)) (pa_cons (pe_atP a_Book_ends (cls_Book T) (pr_Book_ends T) (hr.mono (by decide)) (pv 0)) (pa_cons (pe_atP a_Book_works (cls_Book T) (pr_Book_works T) (hr.mono (by decide)) (pv 0)) (pa_cons (pe_atP a_Book_bars (cls_Book T) (pr_Book_bars T) (hr.mono (by decide)) (pv 0)) pa_nil)))))))) (pss_cons (ps_set (i := 3) sc_law_is_told.nd rfl (Or.inl rfl) (pe_op op_cat (pe_lc (own := [("_law_field", 4), ("_law_words", 5)]) (g := gTup K 2 (gCons (gName 4) (gCons (gName 5) gNil))) (tt := tYes) (by rfl) sc_law_is_told.nd (pi_list (pe_has0 h_law_choices (hr.mono (by decide)) rfl)) (blkOk_by (own := [("_law_field", 4), ("_law_words", 5)]) (N := N_law_is_told) (sc := defScope s_law_is_told) (by decide +kernel)) (fun _ _ _ _ _ => (pg_tup (by rfl) (pgs_cons (pg_name (i := 4) sc_law_is_told.nd rfl (Or.inl rfl)) (pgs_cons (pg_name (i := 5) sc_law_is_told.nd rfl (Or.inl rfl)) pgs_nil)))) (fun _ _ _ _ _ => pts_nil) (fun _ _ _ _ _ => (pe_dget hu (pv 1) (pv 4) (fun _ _ => rfl)))) (pe_lst (pa_cons (pe_callTy call_tuple_of (by rfl) (m_tuple T) boot_tuple (pa_cons (pe_callB cr_sortedQ (by rfl) (m_sorted T) boot_sorted (pa_cons (pe_dget hu (pv 1) pe_str (fun _ _ => rfl)) pa_nil)) pa_nil)) pa_nil)))) (pss_one (ps_ret (pe_cmpR op_eq (pe_callB (call_repr gd hr.units) (by rfl) (m_repr T) boot_repr (pa_cons (pv 2) pa_nil)) (pe_callB (call_repr gd hr.units) (by rfl) (m_repr T) boot_repr (pa_cons (pv 3) pa_nil)) (nomark _)))))), ?_⟩
    have e1 := hb
    obtain ⟨dx, t, h1, h2⟩ := e1
    refine ⟨_, rfl, a, dx, _, rfl, h1, a, dx, _, _, rfl, h1, rfl, _, rfl, a, dx, _, rfl, h1, a, dx, _, _, rfl, h1, rfl, _, rfl, a, dx, _, rfl, h1, a, dx, _, _, rfl, h1, rfl,
      _, rfl, a, dx, _, rfl, h1, a, dx, _, _, rfl, h1, rfl, _, rfl, a, dx, _, rfl, h1, a, dx, _, _, rfl, h1, rfl, _, rfl, a, dx, _, rfl, h1, a, dx, _, _, rfl, h1, rfl, by show 6 ≤ sizeLine; decide, fun p1 q1 => ?_⟩
    generalize e1 : upd _ _ _ = H1; have s1 := new_s e1 q1; have f1 := new_f e1
    refine ⟨rfl, fun l H2 s2 hl ch => ?_⟩
    obtain ⟨xs, hxs, hxl, row⟩ := ch.row
    have hf2 := (hf.kp (Kp.of s1)).kp (Kp.of s2)
    refine ⟨l, rfl, ⟨_, SqL.of hxs⟩, fun D hD => lc_list (K := K) (a := l) (xs := xs) (fun i H' => H' = upd H2 D (.lst ((bf.five.take i).map V.str))) rfl ?_ ?_ ?_⟩
    · rintro i H' _ rfl
      exact SqL.of (same_new hD _ _ hxs)
    · rintro i x H' hx rfl
      obtain ⟨t, a, f, ws, rfl, hc, ht, ha⟩ := row i x hx
      have hi : i < 5 := by
        have := (List.getElem?_eq_some_iff.mp hx).1
        omega
      obtain ⟨z, ez, gz⟩ := (hf2.kp (Kp.of (same_new (o := .lst ((bf.five.take i).map V.str)) hD))).get hc
      refine ⟨t, _, rfl, .inl (.inl (same_new hD _ _ ht)), rfl, _, _, rfl, _, _, rfl, rfl, rfl, yes_ ⟨_, rfl, _, rfl, d, _, rfl, gz, _, upd_same, ?_, ?_⟩⟩
      · rw [List.length_map, List.length_take]
        exact Nat.lt_of_le_of_lt (Nat.le_trans (Nat.min_le_left _ _) (Nat.le_of_lt hi)) (by decide)
      · rw [upd_upd, take_succ' ez, List.map_append]
        rfl
    · rintro H' rfl
      rw [hxl]
      rw [show bf.five.take 5 = bf.five from rfl]
      generalize e3 : upd _ _ _ = H3; have s3 := new_s e3 hD; have f3 := new_f e3
      have hf3 := hf2.kp (Kp.of s3)
      refine ⟨_, rfl, d, _, rfl, hf3.bars, p, bf.bars, rfl, .inl (SqL.of hf3.2), Nat.lt_of_le_of_lt ok.few (by decide), fun ys p4 py so q4 => ?_⟩
      generalize e4 : upd _ _ _ = H4; have s4 := new_s e4 q4; have f4 := new_f e4
      refine ⟨p4, _, rfl, .inl ⟨SqL.of f4, fun p5 q5 => ?_⟩⟩
      generalize e5 : upd _ _ _ = H5; have s5 := new_s e5 q5; have f5 := new_f e5
      refine ⟨by show 1 ≤ sizeLine; decide, fun p6 q6 => ?_⟩
      generalize e6 : upd _ _ _ = H6; have s6 := new_s e6 q6; have f6 := new_f e6
      refine ⟨D, p6, _, _, rfl, rfl, s6 _ _ (s5 _ _ (s4 _ _ f3)), f6, by show 6 ≤ sizeLine; decide, fun p7 q7 => ?_⟩
      generalize e7 : upd _ _ _ = H7; have s7 := new_s e7 q7; have f7 := new_f e7
      have eb : ys = b.bars := sortedS_one so hg.so (py.trans pm.symm)
      subst eb
      have sx : Same H1 H7 := (((((s2.trans s3).trans s4).trans s5).trans s6).trans s7)
      have k1 : Dp K H7 (.ref p1) (told b) := .lst (SqL.of (sx _ _ f1)) (.cons (.str _) (.cons (.str _) (.cons (.str _) (.cons (.str _) (.cons (.str _) (.cons (.tup (same_t (s1.trans sx) h2) (dpa_strs _)) .nil))))))
      have k2 : Dp K H7 (.ref p7) (told b) := by
        have f7' : H7 p7 = some (.lst (b.five.map V.str ++ [.ref p5])) := by
          rw [ef]
          exact f7
        exact .lst (SqL.of f7') (.cons (.str _) (.cons (.str _) (.cons (.str _) (.cons (.str _) (.cons (.str _) (.cons (.tup (.inl (.inl (s7 _ _ (s6 _ _ f5)))) (dpa_strs _)) .nil))))))
      refine ⟨_, rfl, _, _, rfl, k1, told_show b, told_nodict b, told_depth b, told_len hg.ok, _, rfl, _, _, rfl, k2, told_show b, told_nodict b, told_depth b, told_len hg.ok, rfl, ?_⟩
      rw [decide_eq_true rfl]
      exact k _ (s1.trans sx)
end

end HL

namespace HL
open PySem PySem.Spec PyProof.Rows L2


section
variable {P : Program} {w : World} {K : PySem.W.Frag} {mg : Str → Option Value} {base : Heap}
/-! ### other fields -/
def Bk.put (b : Bk) : Nat → Str → Bk
  | 0, z => { b with held := z }
  | 1, z => { b with each := z }
  | 2, z => { b with lifted := z }
  | 3, z => { b with ends := z }
  | _, z => { b with works := z }
theorem put_fkv {b : Bk} {p : Addr} {i : Nat} {f : Str} {ws : List Str} {z : Str} (e : chs[i]? = some (f, ws)) : putK (fkv b p) (.inr f) (.str z) = fkv (b.put i z) p := by
  match i, e with
  | 0, e => cases e; rfl
  | 1, e => cases e; rfl
  | 2, e => cases e; rfl
  | 3, e => cases e; rfl
  | 4, e => cases e; rfl
  | i + 5, e => simp [chs] at e
theorem put_ok {b : Bk} {i : Nat} {f : Str} {ws : List Str} {z : Str} (h : b.Ok) (e : chs[i]? = some (f, ws)) (hz : z ∈ ws) : (b.put i z).Ok := by
  match i, e with
  | 0, e => cases e; exact ⟨hz, h.e, h.l, h.n, h.k, h.r, h.d⟩
  | 1, e => cases e; exact ⟨h.h, hz, h.l, h.n, h.k, h.r, h.d⟩
  | 2, e => cases e; exact ⟨h.h, h.e, hz, h.n, h.k, h.r, h.d⟩
  | 3, e => cases e; exact ⟨h.h, h.e, h.l, hz, h.k, h.r, h.d⟩
  | 4, e => cases e; exact ⟨h.h, h.e, h.l, h.n, hz, h.r, h.d⟩
  | i + 5, e => simp [chs] at e
theorem put_at {b : Bk} {i : Nat} {z : Str} (h : i < 5) : (b.put i z).five[i]? = some z ∧ (b.put i z).bars = b.bars := by
  match i, h with
  | 0, _ => exact ⟨rfl, rfl⟩
  | 1, _ => exact ⟨rfl, rfl⟩
  | 2, _ => exact ⟨rfl, rfl⟩
  | 3, _ => exact ⟨rfl, rfl⟩
  | 4, _ => exact ⟨rfl, rfl⟩
/-- fields that differ -/
def Oth (F : Addr) (H : Hp) (b : Bk) (v : V) : Prop := ∃ (x px : Addr) (bx : Bk), v = .ref x ∧ px ≠ F ∧ FAt H x px bx ∧ bx.Ok ∧ ¬ (bx.five = b.five ∧ bx.bars.Perm b.bars)
theorem Oth.sm {F : Addr} {H H' : Hp} {b : Bk} {v : V} {acc : List V} (h : Oth F H b v) (hF : H F = some (.lst acc)) (sm : SmD F H H') : Oth F H' b v := by
  obtain ⟨x, px, bx, e, np, hf, ok, ne⟩ := h
  exact ⟨x, px, bx, e, np, ⟨sm _ _ (ne_of hf.1 hF (by intro z; cases z)) hf.1, sm _ _ np hf.2⟩, ok, ne⟩
def spOthers : Sp := fun vs H Q _ => ∃ (d p : Addr) (b : Bk), vs = [.ref d] ∧ FAt H d p b ∧ b.Ok ∧ ∀ (F : Addr) (acc : List V) (H' : Hp), Same H H' → H F = none → H' F = some (.lst acc) → acc.length ≤ 100 → (∀ v ∈ acc, Oth F H' b v) → Q (.ref F) H'
theorem has_others (T : Tx K mg) : Has P w K mg base "_law_others" 2 ["_law_fields"] spOthers := by
  have h_law_choices : Has P w K mg base "_law_choices" 1 [] spCh := has_ch T
  have h_law_all_bars : Has P w K mg base "_law_all_bars" 1 [] spAll := has_all T
  refine has_of (k := 1) (g_law_others T) (d_law_others T) sc_law_others (fun _ _ _ _ _ _ us hl => match us, hl with | [_], _ => rfl) (fun vs H Q E h => ?_) (fun cdv A outer s H vs Q E hr h => ?_)
  · obtain ⟨d, p, b, rfl, _⟩ := h
    rfl
  · obtain ⟨d, p, b, rfl, hf, ok, k⟩ := h
    have hu := hu_of hr
    refine ⟨_, (pss_cons (ps_set (i := 1) sc_law_others.nd rfl (Or.inl rfl) (pe_lst pa_nil)) (pss_cons (ps_for PassesOwn.never rfl (pi_list (pe_has0 h_law_choices (hr.mono (by decide)) rfl)) (pg_tup (by rfl) (pgs_cons (pg_name (i := 2) sc_law_others.nd rfl (Or.inl rfl)) (pgs_cons (pg_name (i := 3) sc_law_others.nd rfl (Or.inl rfl)) pgs_nil))) (pss_one (ps_for PassesOwn.never rfl (pi_list (pv 3)) (pg_name (i := 4) sc_law_others.nd rfl (Or.inr rfl)) (pss_one (ps_if (pt_cmpR op_ne (pv 4) (pe_dget hu (pv 0) (pv 2) (fun _ _ => rfl)) (nomark _)) (pss_cons (ps_set (i := 5) sc_law_others.nd rfl (Or.inl rfl) (pe_callTy call_dictD (by rfl) (m_dict T) boot_dict (pa_cons (pv 0) pa_nil))) (pss_cons (ps_dput hu (pv 5) (pv 2) (pv 4) rfl) (pss_one (ps_expr (pe_bm PySem.F.plainAttrs_list PySem.F.slot_list_append PySem.F.type_list_append mt_append (pv 1) (pa_cons (pv 5) pa_nil)))))) pss_nil))))) (pss_cons (ps_for PassesOwn.never rfl (pi_list (pe_has0 h_law_all_bars (hr.mono (by decide)) rfl)) (pg_name (i := 4) sc_law_others.nd rfl (Or.inr rfl)) (pss_cons (ps_set (i := 5) sc_law_others.nd rfl (Or.inl rfl) (pe_callTy call_dictD (by rfl) (m_dict T) boot_dict (pa_cons (pv 0) pa_nil))) (pss_cons (ps_dput hu (pv 5) pe_str (pe_lc (own := [("_law_one", 6)]) (g := gName 6) (by rfl) sc_law_others.nd (pi_list (pe_dget hu (pv 0) pe_str (fun _ _ => rfl))) (blkOk_by (own := [("_law_one", 6)]) (N := N_law_others) (sc := defScope s_law_others) (by decide +kernel)) (fun _ _ _ _ _ => (pg_name (i := 6) sc_law_others.nd rfl (Or.inl rfl))) (fun _ _ _ _ _ => (pts_one (pt_cmpR op_ne (pv 6) (pv 4) (nomark _)))) (fun _ _ _ _ _ => (pv 6))) rfl) (Evl.pss_cut (ps_if (pt_cmpR op_notIn_seq (pv 4) (pe_dget hu (pv 0) pe_str (fun _ _ => rfl)) rfl) (pss_one (ps_dput hu (pv 5) pe_str (pe_op op_cat (pe_dget hu (pv 0) pe_str (fun _ _ => rfl)) (pe_lst (pa_cons (pv 4) pa_nil))) rfl)) pss_nil) (pss_one (ps_expr (pe_bm PySem.F.plainAttrs_list PySem.F.slot_list_append PySem.F.type_list_append mt_append (pv 1) (pa_cons (pv 5) pa_nil)))))))) (pss_one (ps_ret (pv 1)))))), ?_⟩
    refine ⟨by decide, fun F qF => ?_⟩
    generalize e1 : upd _ _ _ = H1; have s1 := new_s e1 qF; have f1 := new_f e1
    refine ⟨rfl, fun l H2 s2 hl ch => ?_⟩
    obtain ⟨xs, hxs, hxl, row⟩ := ch.row
    have nl : l ≠ F := (ne_of_none f1 hl).symm
    have f2 := s2 _ _ f1
    have dF : d ≠ F := ne_of_none hf.1 qF
    have pF : p ≠ F := ne_of_none hf.2 qF
    have hf2 : FAt H2 d p b := hf.kp (Kp.of (s1.trans s2))
    have hfs : ∀ H', SmD F H2 H' → FAt H' d p b := fun H' sm => ⟨sm _ _ dF hf2.1, sm _ _ pF hf2.2⟩
    refine ⟨l, rfl, ⟨_, SqL.of hxs⟩, for_list (K := K) (a := l) (xs := xs) (fun i σ H' => ∃ (o2 o3 o4 o5 o6 : Option V) (acc : List V), σ = [some (.ref d), some (.ref F), o2, o3, o4, o5, o6] ∧ H' F = some (.lst acc) ∧ acc.length ≤ i * 3 ∧ (∀ v ∈ acc, Oth F H' b v) ∧ SmD F H2 H')
      ⟨_, _, _, _, _, [], rfl, f2, by decide, fun v hv => (by cases hv), fun _ _ _ e => e⟩ ?_ ?_ ?_⟩
    · rintro i σ H' _ ⟨_, _, _, _, _, _, _, _, _, _, sm⟩
      exact SqL.of (sm _ _ nl hxs)
    · rintro i x σ H' hx ⟨o2, o3, o4, o5, o6, acc, rfl, hF, hl1, ho, sm⟩
      obtain ⟨t, a, f, ws, rfl, hc, ht, ha⟩ := row i x hx
      have hi : i < 5 := by
        have := (List.getElem?_eq_some_iff.mp hx).1
        omega
      have hw3 : ws.length ≤ 3 := by
        have m := List.mem_of_getElem? hc
        simp only [chs, List.mem_cons, List.not_mem_nil, or_false, Prod.mk.injEq] at m
        rcases m with ⟨_, rfl⟩ | ⟨_, rfl⟩ | ⟨_, rfl⟩ | ⟨_, rfl⟩ | ⟨_, rfl⟩
        all_goals decide
      have nt : t ≠ F := ne_of ht f2 (by intro z; cases z)
      have na : a ≠ F := ne_of ha f2 (fun z => by
        have := (chs_some hc).1
        injection z with z
        have z2 := congrArg List.length z
        rw [List.length_map] at z2
        rw [z2] at this
        exact absurd this (by decide))
      refine ⟨t, _, rfl, .inl (.inl (sm _ _ nt ht)), rfl, _, _, rfl, _, _, rfl, rfl, ?_⟩
      refine ⟨_, rfl, a, rfl, ⟨_, SqL.of (sm _ _ na ha)⟩, for_list (K := K) (a := a) (xs := ws.map V.str) (fun j σ H' => ∃ (o4 o5 o6 : Option V) (acc : List V), σ = [some (.ref d), some (.ref F), some (.str f), some (.ref a), o4, o5, o6] ∧ H' F = some (.lst acc) ∧ acc.length ≤ i * 3 + j ∧ (∀ v ∈ acc, Oth F H' b v) ∧ SmD F H2 H')
        ⟨_, _, _, acc, rfl, hF, by omega, ho, sm⟩ ?_ ?_ ?_⟩
      · rintro j σ H' _ ⟨_, _, _, _, _, _, _, _, sm⟩
        exact SqL.of (sm _ _ na ha)
      · rintro j x σ H3 hx ⟨o4, o5, o6, acc, rfl, hF, hl1, ho, sm⟩
        obtain ⟨z, hz, rfl⟩ := List.mem_map.mp (List.mem_of_getElem? hx)
        have hj : j < ws.length := by
          have := (List.getElem?_eq_some_iff.mp hx).1
          rw [List.length_map] at this
          exact this
        obtain ⟨y, ey, gy⟩ := (hfs _ sm).get hc
        refine ⟨_, rfl, _, rfl, _, rfl, d, _, rfl, gy, rfl, _, rfl, ?_⟩
        by_cases hne : z = y
        · subst hne
          rw [decide_eq_true rfl]
          exact iteF ⟨_, _, _, acc, rfl, hF, by omega, ho, sm⟩
        · rw [decide_eq_false (fun q => hne (V.str.inj q))]
          refine iteT ⟨_, rfl, d, _, rfl, .inl (hfs _ sm).1, fun x4 q4 => ?_⟩
          generalize e4 : upd _ _ _ = H4; have s4 := new_s e4 q4; have f4 := new_f e4
          refine ⟨_, rfl, _, rfl, _, rfl, x4, _, rfl, DPut.k (k := .inr f) f4 (by show 6 < sizeLine; decide), ?_⟩
          rw [put_fkv hc]
          have sm4 : SmD F H2 (upd H4 x4 (.dK (fkv (b.put i z) p))) := fun c o nc e => by
            have e3 := sm c o nc e
            rw [upd_ne (ne_of_none e3 q4)]
            exact s4 _ _ e3
          have nxF : x4 ≠ F := (ne_of_none hF q4).symm
          have sm34 : SmD F H3 (upd H4 x4 (.dK (fkv (b.put i z) p))) := fun c o nc e => by
            rw [upd_ne (ne_of_none e q4)]
            exact s4 _ _ e
          have hF4 : upd H4 x4 (.dK (fkv (b.put i z) p)) F = some (.lst acc) := by
            rw [upd_ne nxF.symm]
            exact s4 _ _ hF
          refine ⟨_, rfl, .inl ⟨rfl, _, SqL.of hF4⟩, _, rfl, F, acc, _, rfl, rfl, hF4, Nat.lt_of_le_of_lt hl1 (Nat.lt_of_le_of_lt (by omega : i * 3 + j ≤ 100) (by decide)), ?_⟩
          have smA : ∀ o, SmD F H3 (upd (upd H4 x4 (.dK (fkv (b.put i z) p))) F o) := fun o c u nc e => by
            rw [upd_ne nc]
            exact sm34 c u nc e
          refine ⟨_, _, _, acc ++ [.ref x4], rfl, upd_same, by rw [List.length_append, List.length_singleton]; omega, fun v hv => ?_, fun c o nc e => by rw [upd_ne nc]; exact sm4 c o nc e⟩
          rcases List.mem_append.mp hv with hv | hv
          · exact (ho v hv).sm hF (smA _)
          · rw [List.mem_singleton.mp hv]
            refine ⟨x4, p, b.put i z, rfl, pF, ⟨by rw [upd_ne nxF, upd_same], ?_⟩, put_ok ok hc hz, fun q => ?_⟩
            · rw [(put_at (b := b) (z := z) hi).2]
              exact smA _ _ _ pF (hfs _ sm).2
            · have e1 := (put_at (b := b) (z := z) hi).1
              rw [q.1, ey] at e1
              exact hne (Option.some.inj e1).symm
      · rintro σ H' ⟨o4, o5, o6, acc, rfl, hF, hl1, ho, sm⟩
        rw [List.length_map] at hl1
        exact ⟨_, _, _, _, _, acc, rfl, hF, by omega, ho, sm⟩
    · rintro σ H3 ⟨o2, o3, o4, o5, o6, acc, rfl, hF, hl1, ho, sm⟩
      rw [hxl] at hl1
      refine ⟨rfl, fun l4 q4 => ?_⟩
      generalize e4 : upd _ _ _ = H4; have s4 := new_s e4 q4; have f4 := new_f e4
      have hF4 := s4 _ _ hF
      have nl4 : l4 ≠ F := (ne_of_none hF q4).symm
      have sm4 : SmD F H2 H4 := sm.sm s4
      have ho4 : ∀ v ∈ acc, Oth F H4 b v := fun v hv => (ho v hv).sm hF (.of s4)
      refine ⟨l4, rfl, ⟨_, SqL.of f4⟩, for_list (K := K) (a := l4) (xs := bars6.map V.str) (fun i σ H' => ∃ (o2 o3 o4 o5 o6 : Option V) (acc : List V), σ = [some (.ref d), some (.ref F), o2, o3, o4, o5, o6] ∧ H' F = some (.lst acc) ∧ acc.length ≤ 15 + i ∧ (∀ v ∈ acc, Oth F H' b v) ∧ SmD F H4 H')
        ⟨_, _, _, _, _, acc, rfl, hF4, by omega, ho4, fun _ _ _ e => e⟩ ?_ ?_ ?_⟩
      · rintro i σ H' _ ⟨_, _, _, _, _, _, _, _, _, _, sm⟩
        exact SqL.of (sm _ _ nl4 f4)
      · clear hF hF4 ho ho4 hl1 acc o2 o3 o4 o5 o6
        rintro i x σ H5 hx ⟨o2, o3, o4, o5, o6, acc, rfl, hF, hl1, ho, sm5⟩
        obtain ⟨z, hz, rfl⟩ := List.mem_map.mp (List.mem_of_getElem? hx)
        have hi : i < 6 := by
          have := (List.getElem?_eq_some_iff.mp hx).1
          rw [List.length_map] at this
          exact this
        have hf5 : FAt H5 d p b := hfs _ (sm4.trans sm5)
        refine ⟨_, rfl, d, _, rfl, .inl hf5.1, fun x6 q6 => ?_⟩
        generalize e6 : upd _ _ _ = H6; have s6 := new_s e6 q6; have f6 := new_f e6
        have hf6 := hf5.kp (Kp.of s6)
        refine ⟨_, rfl, d, _, rfl, hf6.bars, p, rfl, ⟨_, SqL.of hf6.2⟩, fun D hD => lcl_pure (fun v => !decide (v = .str z)) id hD (SqL.of hf6.2) (by rw [List.length_map]; exact Nat.le_trans ok.few (by decide)) ?_ ?_⟩
        · intro j x H' Q' R hx sm q1 q2
          refine ⟨rfl, _, rfl, _, rfl, ?_⟩
          obtain ⟨y, hy, rfl⟩ := List.mem_map.mp (List.mem_of_getElem? hx)
          refine ⟨rfl, _, rfl, ?_⟩
          cases e : !decide (V.str y = V.str z) with
          | true => exact iteT ⟨_, rfl, q1 e⟩
          | false => exact iteF (q2 e)
        · have ef : (((b.bars.map V.str).filter (fun v => !decide (v = .str z))).map id) = (b.bars.filter fun y => !decide (y = z)).map V.str := by
            rw [List.map_id, List.filter_map]
            congr 1
            refine List.filter_congr fun y _ => ?_
            show (!decide (V.str y = V.str z)) = !decide (y = z)
            rw [show decide (V.str y = V.str z) = decide (y = z) from decide_eq_decide.mpr ⟨fun q => V.str.inj q, fun q => by rw [q]⟩]
          rw [ef]
          generalize e7 : upd _ _ _ = H7; have s7 := new_s e7 hD; have f7 := new_f e7
          have hF7 : H7 F = some (.lst acc) := s7 _ _ (s6 _ _ hF)
          have x7 := s7 _ _ f6
          have nx6 : x6 ≠ F := (ne_of_none hF q6).symm
          have nD : D ≠ F := (ne_of_none (s6 _ _ hF) hD).symm
          have nDx : D ≠ x6 := (ne_of_none f6 hD).symm
          refine ⟨_, rfl, x6, _, rfl, DPut.k (k := .inr "bars") x7 (by show 6 < sizeLine; decide), ?_⟩
          generalize e8 : upd H7 x6 _ = H8
          have f8 : H8 x6 = some (.dK (fkv { b with bars := b.bars.filter fun y => !decide (y = z) } D)) := new_f e8
          have f8D : H8 D = some (.lst ((b.bars.filter fun y => !decide (y = z)).map V.str)) := by
            rw [← e8, upd_ne nDx]
            exact f7
          have s58 : Same H5 H8 := fun c o e => by
            rw [← e8, upd_ne (ne_of_none e q6)]
            exact s7 _ _ (s6 _ _ e)
          have hf8 := hf5.kp (Kp.of s58)
          have hF8 := s58 _ _ hF
          refine ⟨fun σ' H' => σ' = [some (.ref d), some (.ref F), o2, o3, some (.str z), some (.ref x6), o6] ∧ ∃ (px : Addr) (bx : Bk), px ≠ F ∧ FAt H' x6 px bx ∧ bx.Ok ∧ ¬ (bx.five = b.five ∧ bx.bars.Perm b.bars) ∧ SmD F H5 H' ∧ H' F = some (.lst acc), ?_, ?_⟩
          · refine ⟨_, rfl, _, rfl, d, _, rfl, hf8.bars, p, _, rfl, .inl (SqL.of hf8.2), rfl, flat_strs _, _, rfl, ?_⟩
            rw [inV_strs]
            by_cases hin : z ∈ b.bars
            · rw [decide_eq_true hin]
              refine iteF ⟨rfl, D, _, nD, ⟨f8, f8D⟩, ⟨ok.h, ok.e, ok.l, ok.n, ok.k, fun y hy => ok.r y (List.mem_filter.mp hy).1, List.Sublist.nodup List.filter_sublist ok.d⟩, fun q => ?_, .of s58, hF8⟩
              have m := q.2.mem_iff.mpr hin
              have := (List.mem_filter.mp m).2
              simp at this
            · rw [decide_eq_false hin]
              refine iteT ⟨_, rfl, d, _, rfl, hf8.bars, _, rfl, by show 1 ≤ sizeLine; decide, fun p9 q9 => ?_⟩
              generalize e9 : upd _ _ _ = H9; have s9 := new_s e9 q9; have f9 := new_f e9
              have hf9 := hf8.kp (Kp.of s9)
              refine ⟨p, p9, _, _, rfl, rfl, hf9.2, f9, by rw [List.length_map]; exact Nat.le_trans (Nat.add_le_add_right ok.few 1) (by decide), fun p10 q10 => ?_⟩
              generalize e10 : upd _ _ _ = H10; have s10 := new_s e10 q10; have f10 := new_f e10
              have nxp : p10 ≠ x6 := (ne_of_none (s9 _ _ f8) q10).symm
              refine ⟨_, rfl, x6, _, rfl, DPut.k (k := .inr "bars") (s10 _ _ (s9 _ _ f8)) (by show 6 < sizeLine; decide), ?_⟩
              refine ⟨rfl, p10, { b with bars := b.bars ++ [z] }, (ne_of_none (s9 _ _ hF8) q10).symm, ⟨upd_same, ?_⟩, ⟨ok.h, ok.e, ok.l, ok.n, ok.k, fun y hy => ?_, ?_⟩, fun q => ?_, fun c o nc e => ?_, ?_⟩
              · rw [upd_ne nxp, List.map_append]
                exact f10
              · rcases List.mem_append.mp hy with hy | hy
                · exact ok.r y hy
                · rw [List.mem_singleton.mp hy]
                  exact hz
              · refine List.nodup_append.mpr ⟨ok.d, by simp, fun u hu v hv e => ?_⟩
                rw [List.mem_singleton.mp hv] at e
                exact hin (e ▸ hu)
              · have := q.2.length_eq
                simp at this
              · rw [upd_ne (ne_of_none e q6)]
                exact s10 _ _ (s9 _ _ (s58 _ _ e))
              · rw [upd_ne nx6.symm]
                exact s10 _ _ (s9 _ _ hF8)
          · rintro σ' H' ⟨rfl, px, bx, npx, hfx, okx, nex, smx, hFx⟩
            refine ⟨_, rfl, .inl ⟨rfl, _, SqL.of hFx⟩, _, rfl, F, acc, _, rfl, rfl, hFx, Nat.lt_of_le_of_lt hl1 (Nat.lt_of_le_of_lt (by omega : 15 + i ≤ 100) (by decide)), ?_⟩
            have smA : ∀ o, SmD F H5 (upd H' F o) := fun o c u nc e => by
              rw [upd_ne nc]
              exact smx c u nc e
            refine ⟨_, _, _, _, _, acc ++ [.ref x6], rfl, upd_same, by rw [List.length_append, List.length_singleton]; omega, fun v hv => ?_, fun c o nc e => smA _ c o nc (sm5 c o nc e)⟩
            rcases List.mem_append.mp hv with hv | hv
            · exact (ho v hv).sm hF (smA _)
            · rw [List.mem_singleton.mp hv]
              exact ⟨x6, px, bx, rfl, npx, ⟨by rw [upd_ne nx6]; exact hfx.1, by rw [upd_ne npx]; exact hfx.2⟩, okx, nex⟩
      · rintro σ H' ⟨o2, o3, o4, o5, o6, acc, rfl, hF, hl1, ho, sm5⟩
        have hl2 : acc.length ≤ 15 + 6 := hl1
        exact ⟨_, rfl, k F acc H' (fun c o e => (sm4.trans sm5) c o (ne_of_none e qF) (s2 _ _ (s1 _ _ e))) qF hF (by omega) ho⟩
end

end HL

namespace HL
open PySem PySem.Spec PyProof.Rows L2


section
variable {P : Program} {w : World} {K : PySem.W.Frag} {mg : Str → Option Value} {base : Heap}
theorem kb_none {fd : FuncData} (F : FunD K "__init__" "Book.__init__" (defArgs s_Book_init) (defBody s_Book_init) (defScope s_Book_init) (dd_Book_init.dvs K) (dd_Book_init.kws K) (mAt "Book" "__init__" K) fd) :
    ∃ g, KBn K fd ["self", "held", "each", "lifted", "ends", "works", "bars"] 1 [] g (fun vs zs => gPick [0, 1, 2, 3, 4, 5] vs (([("held", .str "home"), ("each", .str "now"), ("lifted", .str "nothing"), ("ends", .str "scope"), ("works", .str "own"), ("bars", .ref (kwAt (mAt "Book" "__init__") "bars" K))] : List (Str × V)).map (·.2)) zs) := by
  obtain ⟨mv, h⟩ := F.kbinds0 (ps := ["self", "held", "each", "lifted", "ends", "works", "bars"]) 1 [] [("held", .str "home"), ("each", .str "now"), ("lifted", .str "nothing"), ("ends", .str "scope"), ("works", .str "own"), ("bars", .ref (kwAt (mAt "Book" "__init__") "bars" K))] (fun {α} => gPick (α := α) [0, 1, 2, 3, 4, 5]) (by intro z; cases z) (fun q hq => by
    simp only [List.mem_cons, List.not_mem_nil, or_false] at hq
    rcases hq with rfl | rfl | rfl | rfl | rfl | rfl
    all_goals simp [dd_Book_init, DefA.kws, He.Dv.v]) (fun h1 h2 h3 => vals_gPick _ h1 h2 h3) (fun D doc pm an cdv ct us mv ws l1 l2 l3 => match us, mv, ws, l1, l2, l3 with
    | [_], [_, _, _, _, _, _], [], _, _, _ => ⟨_, _, _, _, _, _, rfl, rfl, ⟨_, _, _, _, _, _, rfl, rfl, ⟨_, _, _, _, _, _, rfl, rfl, ⟨_, _, _, _, _, _, rfl, rfl, ⟨_, _, _, _, _, _, rfl, rfl, ⟨_, _, _, _, _, _, rfl, rfl, rfl⟩⟩⟩⟩⟩⟩)
  exact ⟨_, h⟩
theorem kb_each {fd : FuncData} (F : FunD K "__init__" "Book.__init__" (defArgs s_Book_init) (defBody s_Book_init) (defScope s_Book_init) (dd_Book_init.dvs K) (dd_Book_init.kws K) (mAt "Book" "__init__" K) fd) :
    ∃ g, KBn K fd ["self", "held", "each", "lifted", "ends", "works", "bars"] 1 ["each"] g (fun vs zs => gPick [0, 5, 1, 2, 3, 4] vs (([("held", .str "home"), ("lifted", .str "nothing"), ("ends", .str "scope"), ("works", .str "own"), ("bars", .ref (kwAt (mAt "Book" "__init__") "bars" K))] : List (Str × V)).map (·.2)) zs) := by
  obtain ⟨mv, h⟩ := F.kbinds0 (ps := ["self", "held", "each", "lifted", "ends", "works", "bars"]) 1 ["each"] [("held", .str "home"), ("lifted", .str "nothing"), ("ends", .str "scope"), ("works", .str "own"), ("bars", .ref (kwAt (mAt "Book" "__init__") "bars" K))] (fun {α} => gPick (α := α) [0, 5, 1, 2, 3, 4]) (by intro z; cases z) (fun q hq => by
    simp only [List.mem_cons, List.not_mem_nil, or_false] at hq
    rcases hq with rfl | rfl | rfl | rfl | rfl
    all_goals simp [dd_Book_init, DefA.kws, He.Dv.v]) (fun h1 h2 h3 => vals_gPick _ h1 h2 h3) (fun D doc pm an cdv ct us mv ws l1 l2 l3 => match us, mv, ws, l1, l2, l3 with
    | [_], [_, _, _, _, _], [_], _, _, _ => ⟨_, _, _, _, _, _, rfl, rfl, ⟨_, _, _, _, _, _, rfl, rfl, ⟨_, _, _, _, _, _, rfl, rfl, ⟨_, _, _, _, _, _, rfl, rfl, ⟨_, _, _, _, _, _, rfl, rfl, rfl⟩⟩⟩⟩⟩)
  exact ⟨_, h⟩
theorem kb_ends {fd : FuncData} (F : FunD K "__init__" "Book.__init__" (defArgs s_Book_init) (defBody s_Book_init) (defScope s_Book_init) (dd_Book_init.dvs K) (dd_Book_init.kws K) (mAt "Book" "__init__" K) fd) :
    ∃ g, KBn K fd ["self", "held", "each", "lifted", "ends", "works", "bars"] 1 ["ends"] g (fun vs zs => gPick [0, 1, 2, 5, 3, 4] vs (([("held", .str "home"), ("each", .str "now"), ("lifted", .str "nothing"), ("works", .str "own"), ("bars", .ref (kwAt (mAt "Book" "__init__") "bars" K))] : List (Str × V)).map (·.2)) zs) := by
  obtain ⟨mv, h⟩ := F.kbinds0 (ps := ["self", "held", "each", "lifted", "ends", "works", "bars"]) 1 ["ends"] [("held", .str "home"), ("each", .str "now"), ("lifted", .str "nothing"), ("works", .str "own"), ("bars", .ref (kwAt (mAt "Book" "__init__") "bars" K))] (fun {α} => gPick (α := α) [0, 1, 2, 5, 3, 4]) (by intro z; cases z) (fun q hq => by
    simp only [List.mem_cons, List.not_mem_nil, or_false] at hq
    rcases hq with rfl | rfl | rfl | rfl | rfl
    all_goals simp [dd_Book_init, DefA.kws, He.Dv.v]) (fun h1 h2 h3 => vals_gPick _ h1 h2 h3) (fun D doc pm an cdv ct us mv ws l1 l2 l3 => match us, mv, ws, l1, l2, l3 with
    | [_], [_, _, _, _, _], [_], _, _, _ => ⟨_, _, _, _, _, _, rfl, rfl, ⟨_, _, _, _, _, _, rfl, rfl, ⟨_, _, _, _, _, _, rfl, rfl, ⟨_, _, _, _, _, _, rfl, rfl, ⟨_, _, _, _, _, _, rfl, rfl, rfl⟩⟩⟩⟩⟩)
  exact ⟨_, h⟩
theorem kb_works_held {fd : FuncData} (F : FunD K "__init__" "Book.__init__" (defArgs s_Book_init) (defBody s_Book_init) (defScope s_Book_init) (dd_Book_init.dvs K) (dd_Book_init.kws K) (mAt "Book" "__init__" K) fd) :
    ∃ g, KBn K fd ["self", "held", "each", "lifted", "ends", "works", "bars"] 1 ["works", "held"] g (fun vs zs => gPick [5, 0, 1, 2, 4, 3] vs (([("each", .str "now"), ("lifted", .str "nothing"), ("ends", .str "scope"), ("bars", .ref (kwAt (mAt "Book" "__init__") "bars" K))] : List (Str × V)).map (·.2)) zs) := by
  obtain ⟨mv, h⟩ := F.kbinds0 (ps := ["self", "held", "each", "lifted", "ends", "works", "bars"]) 1 ["works", "held"] [("each", .str "now"), ("lifted", .str "nothing"), ("ends", .str "scope"), ("bars", .ref (kwAt (mAt "Book" "__init__") "bars" K))] (fun {α} => gPick (α := α) [5, 0, 1, 2, 4, 3]) (by intro z; cases z) (fun q hq => by
    simp only [List.mem_cons, List.not_mem_nil, or_false] at hq
    rcases hq with rfl | rfl | rfl | rfl
    all_goals simp [dd_Book_init, DefA.kws, He.Dv.v]) (fun h1 h2 h3 => vals_gPick _ h1 h2 h3) (fun D doc pm an cdv ct us mv ws l1 l2 l3 => match us, mv, ws, l1, l2, l3 with
    | [_], [_, _, _, _], [_, _], _, _, _ => ⟨_, _, _, _, _, _, rfl, rfl, ⟨_, _, _, _, _, _, rfl, rfl, ⟨_, _, _, _, _, _, rfl, rfl, ⟨_, _, _, _, _, _, rfl, rfl, rfl⟩⟩⟩⟩)
  exact ⟨_, h⟩
theorem kb_bars_lifted {fd : FuncData} (F : FunD K "__init__" "Book.__init__" (defArgs s_Book_init) (defBody s_Book_init) (defScope s_Book_init) (dd_Book_init.dvs K) (dd_Book_init.kws K) (mAt "Book" "__init__" K) fd) :
    ∃ g, KBn K fd ["self", "held", "each", "lifted", "ends", "works", "bars"] 1 ["bars", "lifted"] g (fun vs zs => gPick [0, 1, 5, 2, 3, 4] vs (([("held", .str "home"), ("each", .str "now"), ("ends", .str "scope"), ("works", .str "own")] : List (Str × V)).map (·.2)) zs) := by
  obtain ⟨mv, h⟩ := F.kbinds0 (ps := ["self", "held", "each", "lifted", "ends", "works", "bars"]) 1 ["bars", "lifted"] [("held", .str "home"), ("each", .str "now"), ("ends", .str "scope"), ("works", .str "own")] (fun {α} => gPick (α := α) [0, 1, 5, 2, 3, 4]) (by intro z; cases z) (fun q hq => by
    simp only [List.mem_cons, List.not_mem_nil, or_false] at hq
    rcases hq with rfl | rfl | rfl | rfl
    all_goals simp [dd_Book_init, DefA.kws, He.Dv.v]) (fun h1 h2 h3 => vals_gPick _ h1 h2 h3) (fun D doc pm an cdv ct us mv ws l1 l2 l3 => match us, mv, ws, l1, l2, l3 with
    | [_], [_, _, _, _], [_, _], _, _, _ => ⟨_, _, _, _, _, _, rfl, rfl, ⟨_, _, _, _, _, _, rfl, rfl, ⟨_, _, _, _, _, _, rfl, rfl, ⟨_, _, _, _, _, _, rfl, rfl, rfl⟩⟩⟩⟩)
  exact ⟨_, h⟩
theorem kb_bars_works_ends_lifted_each_held {fd : FuncData} (F : FunD K "__init__" "Book.__init__" (defArgs s_Book_init) (defBody s_Book_init) (defScope s_Book_init) (dd_Book_init.dvs K) (dd_Book_init.kws K) (mAt "Book" "__init__" K) fd) :
    ∃ g, KBn K fd ["self", "held", "each", "lifted", "ends", "works", "bars"] 1 ["bars", "works", "ends", "lifted", "each", "held"] g (fun vs zs => gPick [5, 4, 3, 2, 1, 0] vs (([] : List (Str × V)).map (·.2)) zs) := by
  obtain ⟨mv, h⟩ := F.kbinds0 (ps := ["self", "held", "each", "lifted", "ends", "works", "bars"]) 1 ["bars", "works", "ends", "lifted", "each", "held"] [] (fun {α} => gPick (α := α) [5, 4, 3, 2, 1, 0]) (by intro z; cases z) (fun q hq => by cases hq) (fun h1 h2 h3 => vals_gPick _ h1 h2 h3) (fun D doc pm an cdv ct us mv ws l1 l2 l3 => match us, mv, ws, l1, l2, l3 with
    | [_], [], [_, _, _, _, _, _], _, _, _ => rfl)
  exact ⟨_, h⟩
end

end HL

namespace HL
open PySem PySem.Spec PyProof.Rows L2


section
variable {P : Program} {w : World} {K : PySem.W.Frag} {mg : Str → Option Value} {base : Heap}
/-- a book and the fields it should tell -/
def PairAt (K : PySem.W.Frag) (L : Addr) (H : Hp) (v : V) : Prop := ∃ (t a d p : Addr) (b bf : Bk), v = .ref t ∧ p ≠ L ∧ H t = some (.tup [.ref a, .ref d]) ∧ BookAt K H a b ∧ b.Good ∧ FAt H d p bf ∧ bf.Ok ∧ b.five = bf.five ∧ b.bars.Perm bf.bars
theorem PairAt.kp {L : Addr} {H H' : Hp} {v : V} (h : PairAt K L H v) (e : Kp H H') : PairAt K L H' v := by
  obtain ⟨t, a, d, p, b, bf, h1, h0, h2, h3, h4, h5, h6, h7, h8⟩ := h
  exact ⟨t, a, d, p, b, bf, h1, h0, e.tup h2, h3.kp e, h4, h5.kp e, h6, h7, h8⟩
theorem PairAt.put {L : Addr} {H : Hp} {v : V} {o : HO} {acc : List V} (h : PairAt K L H v) (e : H L = some (.lst acc)) : PairAt K L (upd H L o) v := by
  obtain ⟨t, a, d, p, b, bf, h1, h0, h2, ⟨dx, t2, h3, h9⟩, h4, h5, h6, h7, h8⟩ := h
  refine ⟨t, a, d, p, b, bf, h1, h0, by rw [upd_ne (ne_of h2 e (by intro z; cases z))]; exact h2, ⟨dx, t2, by rw [upd_ne (ne_of h3 e (by intro z; cases z))]; exact h3, ?_⟩, h4, ⟨by rw [upd_ne (ne_of h5.1 e (by intro z; cases z))]; exact h5.1, by rw [upd_ne h0]; exact h5.2⟩, h6, h7, h8⟩
  rcases h9 with (h9 | ⟨o, h9⟩) | h9
  · exact .inl (.inl (by rw [upd_ne (ne_of h9 e (by intro z; cases z))]; exact h9))
  · exact .inl (.inr ⟨o, by rw [upd_ne (ne_of h9 e (by intro z; cases z))]; exact h9⟩)
  · exact .inr h9
def b0 : Bk := ⟨"home", "now", "nothing", "scope", "own", []⟩
theorem b0_ok : b0.Ok := ⟨by decide, by decide, by decide, by decide, by decide, fun z hz => (by cases hz), by decide⟩
def spLeft : Sp := fun vs H Q _ => ∃ (d p : Addr) (b : Bk), vs = [.ref d] ∧ FAt H d p b ∧ b.Ok ∧ ∀ H', Same H H' → Q (.bl true) H'
theorem has_left (T : Tx K mg) : HasG P w K mg base "_law_left_out_right" 5 ["_law_fields"] spLeft := by
  have h_law_is_told : HasG P w K mg base "_law_is_told" 3 ["_law_made", "_law_fields"] (spTold K) := has_told T
  refine hasg_of (k := 4) (g_law_left_out_right T) (d_law_left_out_right T) sc_law_left_out_right (fun _ _ _ _ _ _ us hl => match us, hl with | [_], _ => rfl) (fun vs H Q E h => ?_) (fun cdv A outer s H vs Q E gd hr h => ?_)
  · obtain ⟨d, p, b, rfl, _⟩ := h
    rfl
  · obtain ⟨d, p, b, rfl, hf, ok, k⟩ := h
    have hu := hu_of hr
    refine ⟨_, (pss_cons (ps_set (i := 1) sc_law_left_out_right.nd rfl (Or.inl rfl) (pe_disp (pps_cons pe_str pe_str (pps_cons pe_str pe_str (pps_cons pe_str pe_str (pps_cons pe_str pe_str (pps_cons pe_str pe_str (pps_cons pe_str (pe_lst pa_nil) pps_nil)))))) (by rfl) (by rfl) (fun z => by cases z) (by decide))) (pss_cons (ps_par3 (i := 2) (j := 3) (l := 4) (by rfl) sc_law_left_out_right.nd rfl rfl rfl (by decide) (by decide) (by decide) rfl rfl rfl (pa_cons (pe_callTy call_dictD (by rfl) (m_dict T) boot_dict (pa_cons (pv 1) pa_nil)) (pa_cons (pe_callTy call_dictD (by rfl) (m_dict T) boot_dict (pa_cons (pv 1) pa_nil)) (pa_cons (pe_callTy call_dictD (by rfl) (m_dict T) boot_dict (pa_cons (pv 1) pa_nil)) pa_nil))) (by rfl)) (pss_cons (ps_set (i := 5) sc_law_left_out_right.nd rfl (Or.inl rfl) (pe_callTy call_dictD (by rfl) (m_dict T) boot_dict (pa_cons (pv 1) pa_nil))) (pss_cons (ps_for PassesOwn.never rfl (pi_list (pe_lst (pa_cons pe_str (pa_cons pe_str pa_nil)))) (pg_name (i := 6) sc_law_left_out_right.nd rfl (Or.inl rfl)) (pss_one (ps_dput hu (pv 5) (pv 6) (pe_dget hu (pv 0) (pv 6) (fun _ _ => rfl)) rfl))) (pss_cons (ps_asg (pe_tup (pa_cons (pe_dget hu (pv 0) pe_str (fun _ _ => rfl)) (pa_cons (pe_dget hu (pv 0) pe_str (fun _ _ => rfl)) pa_nil))) (pg_tup (by rfl) (pgs_cons (pg_sub (pv 2) pe_str (set_dict hu)) (pgs_cons (pg_sub (pv 4) pe_str (set_dict hu)) pgs_nil)))) (pss_cons (ps_for PassesOwn.never rfl (pi_list (pe_lst (pa_cons pe_str (pa_cons pe_str pa_nil)))) (pg_name (i := 6) sc_law_left_out_right.nd rfl (Or.inl rfl)) (pss_one (ps_dput hu (pv 3) (pv 6) (pe_dget hu (pv 0) (pv 6) (fun _ _ => rfl)) rfl))) (pss_cons (ps_set (i := 7) sc_law_left_out_right.nd rfl (Or.inl rfl) (pe_lst (pa_cons (pe_tup (pa_cons (pe_newB T kb_none (hr.mono (by decide)) rfl pk_nil) (pa_cons (pv 1) pa_nil))) (pa_cons (pe_tup (pa_cons (pe_newB T kb_each (hr.mono (by decide)) rfl (pk_cons (pe_dget hu (pv 0) pe_str (fun _ _ => rfl)) pk_nil)) (pa_cons (pv 2) pa_nil))) (pa_cons (pe_tup (pa_cons (pe_newB T kb_ends (hr.mono (by decide)) rfl (pk_cons (pe_dget hu (pv 0) pe_str (fun _ _ => rfl)) pk_nil)) (pa_cons (pv 4) pa_nil))) pa_nil))))) (pss_cons (ps_expr (pe_bm PySem.F.plainAttrs_list PySem.F.slot_list_append PySem.F.type_list_append mt_append (pv 7) (pa_cons (pe_tup (pa_cons (pe_newB T kb_works_held (hr.mono (by decide)) rfl (pk_cons (pe_dget hu (pv 0) pe_str (fun _ _ => rfl)) (pk_cons (pe_dget hu (pv 0) pe_str (fun _ _ => rfl)) pk_nil))) (pa_cons (pv 5) pa_nil))) pa_nil))) (pss_cons (ps_expr (pe_bm PySem.F.plainAttrs_list PySem.F.slot_list_append PySem.F.type_list_append mt_append (pv 7) (pa_cons (pe_tup (pa_cons (pe_newB T kb_bars_lifted (hr.mono (by decide)) rfl (pk_cons (pe_dget hu (pv 0) pe_str (fun _ _ => rfl)) (pk_cons (pe_dget hu (pv 0) pe_str (fun _ _ => rfl)) pk_nil))) (pa_cons (pv 3) pa_nil))) pa_nil))) (pss_one (ps_ret (pe_cmpR (op_eqNil hr.units) (pe_lc (own := [("_law_made", 8), ("_law_due", 9)]) (g := gTup K 2 (gCons (gName 8) (gCons (gName 9) gNil))) (by rfl) sc_law_left_out_right.nd (pi_list (pv 7)) (blkOk_by (own := [("_law_made", 8), ("_law_due", 9)]) (N := N_law_left_out_right) (sc := defScope s_law_left_out_right) (by decide +kernel)) (fun _ _ _ _ _ => (pg_tup (by rfl) (pgs_cons (pg_name (i := 8) sc_law_left_out_right.nd rfl (Or.inl rfl)) (pgs_cons (pg_name (i := 9) sc_law_left_out_right.nd rfl (Or.inl rfl)) pgs_nil)))) (fun _ _ _ _ _ => (pts_one (pt_not (pt_val (pe_hasg gd h_law_is_told (hr.mono (by decide)) rfl (pa_cons (pv 8) (pa_cons (pv 9) pa_nil))))))) (fun _ _ _ _ _ => pe_int)) (pe_lst pa_nil) (nomark _))))))))))))), ?_⟩
    refine fun pp qp => ⟨by decide, fun pl ql => ⟨?_, [(.inr "held", .str "home"), (.inr "each", .str "now"), (.inr "lifted", .str "nothing"), (.inr "ends", .str "scope"), (.inr "works", .str "own"), (.inr "bars", .ref pl)], rfl, by show 6 ≤ 15; decide, ?_⟩⟩
    · exact same_new ql _ _ upd_same
    have npl : pl ≠ pp := (ne_of_none upd_same ql).symm
    have f0l : upd (upd H pp (.dK [])) pl (.lst []) pl = some (.lst []) := upd_same
    generalize e1 : upd (upd (upd H pp (.dK [])) pl (.lst [])) pp _ = H1
    have f1 : H1 pp = some (.dK (fkv b0 pl)) := new_f e1
    have g1 : H1 pl = some (.lst []) := by
      rw [← e1, upd_ne npl]
      exact f0l
    have s1 : Same H H1 := fun c o e => by
      rw [← e1, upd_ne (ne_of_none e qp)]
      exact same_new ql _ _ (same_new qp _ _ e)
    refine ⟨_, rfl, pp, _, rfl, .inl f1, fun x1 q2 => ?_⟩
    generalize e2 : upd _ _ _ = H2; have s2 := new_s e2 q2; have f2 := new_f e2
    refine ⟨_, rfl, pp, _, rfl, .inl (s2 _ _ f1), fun x2 q3 => ?_⟩
    generalize e3 : upd _ _ _ = H3; have s3 := new_s e3 q3; have f3 := new_f e3
    refine ⟨_, rfl, pp, _, rfl, .inl (s3 _ _ (s2 _ _ f1)), fun x3 q4 => ?_⟩
    generalize e4 : upd _ _ _ = H4; have s4 := new_s e4 q4; have f4 := new_f e4
    refine ⟨_, _, _, rfl, _, rfl, pp, _, rfl, .inl (s4 _ _ (s3 _ _ (s2 _ _ f1))), fun x4 q5 => ?_⟩
    generalize e5 : upd _ _ _ = H5; have s5 := new_s e5 q5; have f5 := new_f e5
    have n1 : x1 ≠ pp := (ne_of_none f1 q2).symm
    have n2 : x2 ≠ pp := (ne_of_none (s2 _ _ f1) q3).symm
    have n3 : x3 ≠ pp := (ne_of_none (s3 _ _ (s2 _ _ f1)) q4).symm
    have n4 : x4 ≠ pp := (ne_of_none (s4 _ _ (s3 _ _ (s2 _ _ f1))) q5).symm
    have n12 : x2 ≠ x1 := (ne_of_none f2 q3).symm
    have n13 : x3 ≠ x1 := (ne_of_none (s3 _ _ f2) q4).symm
    have n14 : x4 ≠ x1 := (ne_of_none (s4 _ _ (s3 _ _ f2)) q5).symm
    have n23 : x3 ≠ x2 := (ne_of_none f3 q4).symm
    have n24 : x4 ≠ x2 := (ne_of_none (s4 _ _ f3) q5).symm
    have n34 : x4 ≠ x3 := (ne_of_none f4 q5).symm
    have s14 : Same H1 H5 := ((s2.trans s3).trans s4).trans s5
    have hf5 := hf.kp (Kp.of (s1.trans s14))
    have hx1 : x1 ≠ d := (ne_of_none ((s1 _ _ hf.1)) q2).symm
    have hx2 : x2 ≠ d := (ne_of_none (s2 _ _ (s1 _ _ hf.1)) q3).symm
    have hx3 : x3 ≠ d := (ne_of_none (s3 _ _ (s2 _ _ (s1 _ _ hf.1))) q4).symm
    have hx4 : x4 ≠ d := (ne_of_none (s4 _ _ (s3 _ _ (s2 _ _ (s1 _ _ hf.1)))) q5).symm
    have fp5 : H5 pp = some (.dK (fkv b0 pl)) := s14 _ _ f1
    have fl5 : H5 pl = some (.lst []) := s14 _ _ g1
    have f15 : H5 x1 = some (.dK (fkv b0 pl)) := s5 _ _ (s4 _ _ (s3 _ _ f2))
    have f25 : H5 x2 = some (.dK (fkv b0 pl)) := s5 _ _ (s4 _ _ f3)
    have f35 : H5 x3 = some (.dK (fkv b0 pl)) := s5 _ _ f4
    refine ⟨by decide, fun l6 q6 => ?_⟩
    generalize e6 : upd _ _ _ = H6; have s6 := new_s e6 q6; have f6 := new_f e6
    have nl6 : l6 ≠ x4 := (ne_of_none f5 q6).symm
    refine ⟨l6, rfl, ⟨_, SqL.of f6⟩, for_list (K := K) (a := l6) (xs := [.str "works", .str "held"]) (fun i σ H' => ∃ o : Option V, σ = [some (.ref d), some (.ref pp), some (.ref x1), some (.ref x2), some (.ref x3), some (.ref x4), o, none, none, none] ∧
      H' = upd H6 x4 (.dK (fkv (match i with | 0 => b0 | 1 => { b0 with works := b.works } | _ => { b0 with works := b.works, held := b.held }) pl))) ⟨_, rfl, ?_⟩ ?_ ?_ ?_⟩
    · funext c
      by_cases hc : c = x4
      · subst hc
        rw [upd_same]
        exact s6 _ _ f5
      · rw [upd_ne hc]
    · rintro i σ H' _ ⟨o, _, rfl⟩
      exact SqL.of (by rw [upd_ne nl6]; exact f6)
    · rintro i x σ H' hx ⟨o, rfl, rfl⟩
      have hg : ∀ bb : Bk, FAt (upd H6 x4 (.dK (fkv bb pl))) d p b := fun bb => ⟨by rw [upd_ne hx4.symm]; exact s6 _ _ hf5.1, by rw [upd_ne (ne_of hf5.2 f5 (by intro z; cases z))]; exact s6 _ _ hf5.2⟩
      match i, hx with
      | 0, hx =>
        cases hx
        refine ⟨_, rfl, _, rfl, d, _, rfl, (hg _).works, _, rfl, _, rfl, x4, _, rfl, DPut.k (k := .inr "works") upd_same (by show 6 < sizeLine; decide), _, rfl, ?_⟩
        rw [upd_upd]
        rfl
      | 1, hx =>
        cases hx
        refine ⟨_, rfl, _, rfl, d, _, rfl, (hg _).held, _, rfl, _, rfl, x4, _, rfl, DPut.k (k := .inr "held") upd_same (by show 6 < sizeLine; decide), _, rfl, ?_⟩
        rw [upd_upd]
        rfl
      | i + 2, hx => simp at hx
    · rintro σ H' ⟨o, rfl, e7⟩
      have e7 : upd H6 x4 (.dK (fkv { b0 with works := b.works, held := b.held } pl)) = H' := e7.symm
      have f47 := new_f e7
      have m7 : ∀ c o, c ≠ x4 → H5 c = some o → H' c = some o := fun c o nc e => by
        rw [← e7, upd_ne nc]
        exact s6 _ _ e
      have hp4 : p ≠ x4 := ne_of hf5.2 f5 (by intro z; cases z)
      have hl4 : pl ≠ x4 := ne_of fl5 f5 (by intro z; cases z)
      have hf7 : FAt H' d p b := ⟨m7 _ _ hx4.symm hf5.1, m7 _ _ hp4 hf5.2⟩
      generalize H' = H7 at *
      refine ⟨_, rfl, d, _, rfl, hf7.each, _, rfl, d, _, rfl, hf7.ends, by show 2 ≤ sizeLine; decide, fun t8 q8 => ?_⟩
      generalize e8 : upd _ _ _ = H8; have s8 := new_s e8 q8; have f8 := new_f e8
      have f18 := s8 _ _ (m7 _ _ n14.symm f15)
      have f38 := s8 _ _ (m7 _ _ n34.symm f35)
      refine ⟨t8, _, rfl, .inl (.inl f8), rfl, _, _, rfl, _, rfl, x1, _, rfl, DPut.k (k := .inr "each") f18 (by show 6 < sizeLine; decide), _, _, rfl, _, rfl, x3, _, rfl, DPut.k (k := .inr "ends") (by rw [upd_ne n13]; exact f38) (by show 6 < sizeLine; decide), rfl, ?_⟩
      generalize e10 : upd (upd H8 x1 _) x3 _ = H10
      have f110 : H10 x1 = some (.dK (fkv { b0 with each := b.each } pl)) := by
        rw [← e10, upd_ne n13.symm, upd_same]
        rfl
      have f310 : H10 x3 = some (.dK (fkv { b0 with ends := b.ends } pl)) := new_f e10
      have m10 : ∀ c o, c ≠ x1 → c ≠ x3 → H7 c = some o → H10 c = some o := fun c o c1 c3 e => by
        rw [← e10, upd_ne c3, upd_ne c1]
        exact s8 _ _ e
      have hf10 : FAt H10 d p b := ⟨m10 _ _ hx1.symm hx3.symm hf7.1, m10 _ _ (ne_of hf5.2 f15 (by intro z; cases z)) (ne_of hf5.2 f35 (by intro z; cases z)) hf7.2⟩
      have hl1 : pl ≠ x1 := ne_of fl5 f15 (by intro z; cases z)
      have hl2 : pl ≠ x2 := ne_of fl5 f25 (by intro z; cases z)
      have hl3 : pl ≠ x3 := ne_of fl5 f35 (by intro z; cases z)
      have hp2 : p ≠ x2 := ne_of hf5.2 f25 (by intro z; cases z)
      have f210 : H10 x2 = some (.dK (fkv b0 pl)) := m10 _ _ n12 n23.symm (m7 _ _ n24.symm f25)
      have f410 := m10 _ _ n14 n34 f47
      have fp10 := m10 _ _ n1.symm n3.symm (m7 _ _ n4.symm fp5)
      have fl10 := m10 _ _ hl1 hl3 (m7 _ _ hl4 fl5)
      have sH10 : Same H H10 := fun c o e => by
        have e1 := s1 _ _ e
        have e5 := s14 _ _ e1
        have c1 : c ≠ x1 := ne_of_none e1 q2
        have c3 : c ≠ x3 := ne_of_none (s3 _ _ (s2 _ _ e1)) q4
        have c4 : c ≠ x4 := ne_of_none (s4 _ _ (s3 _ _ (s2 _ _ e1))) q5
        exact m10 _ _ c1 c3 (m7 _ _ c4 e5)
      have cx2 : ∀ c o, H c = some o → c ≠ x2 := fun c o e => ne_of_none (s2 _ _ (s1 _ _ e)) q3
      refine ⟨by decide, fun l11 q11 => ?_⟩
      generalize e11 : upd _ _ _ = H11; have s11 := new_s e11 q11; have f11 := new_f e11
      have nl11 : l11 ≠ x2 := (ne_of_none f210 q11).symm
      refine ⟨l11, rfl, ⟨_, SqL.of f11⟩, for_list (K := K) (a := l11) (xs := [.str "lifted", .str "bars"]) (fun i σ H' => ∃ o : Option V, σ = [some (.ref d), some (.ref pp), some (.ref x1), some (.ref x2), some (.ref x3), some (.ref x4), o, none, none, none] ∧
        H' = upd H11 x2 (.dK (match i with | 0 => fkv b0 pl | 1 => fkv { b0 with lifted := b.lifted } pl | _ => fkv { b0 with lifted := b.lifted, bars := b.bars } p))) ⟨_, rfl, ?_⟩ ?_ ?_ ?_⟩
      · funext c
        by_cases hc : c = x2
        · subst hc
          rw [upd_same]
          exact s11 _ _ f210
        · rw [upd_ne hc]
      · rintro i σ H' _ ⟨o, _, rfl⟩
        exact SqL.of (by rw [upd_ne nl11]; exact f11)
      · rintro i x σ H' hx ⟨o, rfl, rfl⟩
        have hg : ∀ kv, FAt (upd H11 x2 (.dK kv)) d p b := fun kv => ⟨by rw [upd_ne hx2.symm]; exact s11 _ _ hf10.1, by rw [upd_ne hp2]; exact s11 _ _ hf10.2⟩
        match i, hx with
        | 0, hx =>
          cases hx
          refine ⟨_, rfl, _, rfl, d, _, rfl, (hg _).lifted, _, rfl, _, rfl, x2, _, rfl, DPut.k (k := .inr "lifted") upd_same (by show 6 < sizeLine; decide), _, rfl, ?_⟩
          rw [upd_upd]
          rfl
        | 1, hx =>
          cases hx
          refine ⟨_, rfl, _, rfl, d, _, rfl, (hg _).bars, _, rfl, _, rfl, x2, _, rfl, DPut.k (k := .inr "bars") upd_same (by show 6 < sizeLine; decide), _, rfl, ?_⟩
          rw [upd_upd]
          rfl
        | i + 2, hx => simp at hx
      · rintro σ H12 ⟨o, rfl, e12⟩
        have e12 : upd H11 x2 (.dK (fkv { b0 with lifted := b.lifted, bars := b.bars } p)) = H12 := e12.symm
        have f212 := new_f e12
        have m12 : ∀ c o, c ≠ x2 → H10 c = some o → H12 c = some o := fun c o nc e => by
          rw [← e12, upd_ne nc]
          exact s11 _ _ e
        have hf12 : FAt H12 d p b := ⟨m12 _ _ hx2.symm hf10.1, m12 _ _ hp2 hf10.2⟩
        have fl12 := m12 _ _ hl2 fl10
        have A0 : FAt H12 pp pl b0 := ⟨m12 _ _ n2.symm fp10, fl12⟩
        have A1 : FAt H12 x1 pl { b0 with each := b.each } := ⟨m12 _ _ n12.symm f110, fl12⟩
        have A3 : FAt H12 x3 pl { b0 with ends := b.ends } := ⟨m12 _ _ n23 f310, fl12⟩
        have A4 : FAt H12 x4 pl { b0 with works := b.works, held := b.held } := ⟨m12 _ _ n24 f410, fl12⟩
        have A2 : FAt H12 x2 p { b0 with lifted := b.lifted, bars := b.bars } := ⟨f212, hf12.2⟩
        have sH12 : Same H H12 := fun c o e => m12 _ _ (cx2 c o e) (sH10 _ _ e)
        clear e12 f212 m12 e10 f110 f310 m10 e7 f47 m7
        have ok1 : ({ b0 with each := b.each } : Bk).Ok := ⟨b0_ok.h, ok.e, b0_ok.l, b0_ok.n, b0_ok.k, b0_ok.r, b0_ok.d⟩
        have ok3 : ({ b0 with ends := b.ends } : Bk).Ok := ⟨b0_ok.h, b0_ok.e, b0_ok.l, ok.n, b0_ok.k, b0_ok.r, b0_ok.d⟩
        have ok4 : ({ b0 with works := b.works, held := b.held } : Bk).Ok := ⟨ok.h, b0_ok.e, b0_ok.l, b0_ok.n, ok.k, b0_ok.r, b0_ok.d⟩
        have ok2 : ({ b0 with lifted := b.lifted, bars := b.bars } : Bk).Ok := ⟨b0_ok.h, b0_ok.e, ok.l, b0_ok.n, b0_ok.k, ok.r, ok.d⟩
        refine ⟨rfl, rfl, fun a1 dx1 qa1 qd1 nd1 => init_ok b0 (kwAt (mAt "Book" "__init__") "bars" K) qa1 qd1 nd1 rfl b0_ok (.inr (dt_Book_init T _)) fun y1 H13 s13 pm1 gd1 hb1 => ⟨rfl, ?_⟩⟩
        refine ⟨_, rfl, by show 2 ≤ sizeLine; decide, fun t14 q14 => ?_⟩
        generalize e14 : upd _ _ _ = H14; have s14 := new_s e14 q14; have f14 := new_f e14
        have k14 : Kp H12 H14 := (Kp.of s13).trans (Kp.of s14)
        refine ⟨_, rfl, d, _, rfl, (hf12.kp k14).each, rfl, rfl, fun a2 dx2 qa2 qd2 nd2 => init_ok { b0 with each := b.each } (kwAt (mAt "Book" "__init__") "bars" K) qa2 qd2 nd2 rfl ok1 (.inr (dt_Book_init T _)) fun y2 H15 s15 pm2 gd2 hb2 => ⟨rfl, ?_⟩⟩
        refine ⟨_, rfl, by show 2 ≤ sizeLine; decide, fun t16 q16 => ?_⟩
        generalize e16 : upd _ _ _ = H16; have s16 := new_s e16 q16; have f16 := new_f e16
        have k16 : Kp H12 H16 := (k14.trans (Kp.of s15)).trans (Kp.of s16)
        refine ⟨_, rfl, d, _, rfl, (hf12.kp k16).ends, rfl, rfl, fun a3 dx3 qa3 qd3 nd3 => init_ok { b0 with ends := b.ends } (kwAt (mAt "Book" "__init__") "bars" K) qa3 qd3 nd3 rfl ok3 (.inr (dt_Book_init T _)) fun y3 H17 s17 pm3 gd3 hb3 => ⟨rfl, ?_⟩⟩
        refine ⟨_, rfl, by show 2 ≤ sizeLine; decide, fun t18 q18 => ?_⟩
        generalize e18 : upd _ _ _ = H18; have s18 := new_s e18 q18; have f18 := new_f e18
        refine ⟨by show 3 ≤ sizeLine; decide, fun L q19 => ?_⟩
        generalize e19 : upd _ _ _ = H19; have s19 := new_s e19 q19; have f19 := new_f e19
        have k18 : Kp H12 H19 := ((k16.trans (Kp.of s17)).trans (Kp.of s18)).trans (Kp.of s19)
        have nlL : pl ≠ L := ne_of_none (((k16.trans (Kp.of s17)).trans (Kp.of s18)).lst fl12) q19
        have npL : p ≠ L := ne_of_none (((k16.trans (Kp.of s17)).trans (Kp.of s18)).lst hf12.2) q19
        have P1 : PairAt K L H14 (.ref t14) := ⟨t14, a1, pp, pl, _, b0, rfl, nlL, f14, hb1.same s14, gd1, A0.kp k14, b0_ok, rfl, pm1⟩
        have P2 : PairAt K L H16 (.ref t16) := ⟨t16, a2, x1, pl, _, _, rfl, nlL, f16, hb2.same s16, gd2, A1.kp k16, ok1, rfl, pm2⟩
        have P3 : PairAt K L H18 (.ref t18) := ⟨t18, a3, x3, pl, _, _, rfl, nlL, f18, hb3.same s18, gd3, A3.kp ((k16.trans (Kp.of s17)).trans (Kp.of s18)), ok3, rfl, pm3⟩
        obtain ⟨acc, hL, hacc, hlen⟩ : ∃ acc : List V, H19 L = some (.lst acc) ∧ (∀ v ∈ acc, PairAt K L H19 v) ∧ acc.length = 3 := by
          refine ⟨_, f19, fun v hv => ?_, rfl⟩
          simp only [List.mem_cons, List.not_mem_nil, or_false] at hv
          rcases hv with rfl | rfl | rfl
          · exact P1.kp (Kp.of ((((s15.trans s16).trans s17).trans s18).trans s19))
          · exact P2.kp (Kp.of ((s17.trans s18).trans s19))
          · exact P3.kp (Kp.of s19)
        clear f19
        have hf19 := hf12.kp k18
        have sH19 : Same H H19 := ((((((((sH12.trans s13).trans s14).trans s15).trans s16).trans s17).trans s18).trans s19))
        refine ⟨_, rfl, .inl ⟨rfl, _, SqL.of hL⟩, _, rfl, d, _, rfl, hf19.works, _, rfl, d, _, rfl, hf19.held, rfl, rfl, fun a4 dx4 qa4 qd4 nd4 => init_ok { b0 with works := b.works, held := b.held } (kwAt (mAt "Book" "__init__") "bars" K) qa4 qd4 nd4 rfl ok4 (.inr (dt_Book_init T _)) fun y4 H20 s20 pm4 gd4 hb4 => ⟨rfl, ?_⟩⟩
        refine ⟨_, rfl, by show 2 ≤ sizeLine; decide, fun t21 q21 => ?_⟩
        generalize e21 : upd _ _ _ = H21; have s21 := new_s e21 q21; have f21 := new_f e21
        have hL21 := s21 _ _ (s20 _ _ hL)
        refine ⟨L, acc, _, rfl, rfl, hL21, by rw [hlen]; decide, ?_⟩
        have P4 : PairAt K L H21 (.ref t21) := ⟨t21, a4, x4, pl, _, _, rfl, nlL, f21, hb4.same s21, gd4, A4.kp ((k18.trans (Kp.of s20)).trans (Kp.of s21)), ok4, rfl, pm4⟩
        have hacc22 : ∀ v ∈ acc ++ [.ref t21], PairAt K L (upd H21 L (.lst (acc ++ [.ref t21]))) v := fun v hv => by
          rcases List.mem_append.mp hv with hv | hv
          · exact (PairAt.kp (hacc v hv) (Kp.of (s20.trans s21))).put hL21
          · rw [List.mem_singleton.mp hv]
            exact P4.put hL21
        have m22 : ∀ c o, c ≠ L → H19 c = some o → upd H21 L (.lst (acc ++ [.ref t21])) c = some o := fun c o nc e => by
          rw [upd_ne nc]
          exact s21 _ _ (s20 _ _ e)
        have nxL2 : x2 ≠ L := ne_of (k18.dK A2.1) hL (by intro z; cases z)
        have ndL : d ≠ L := ne_of hf19.1 hL (by intro z; cases z)
        have hf22 : FAt (upd H21 L (.lst (acc ++ [.ref t21]))) d p b := ⟨m22 _ _ ndL hf19.1, m22 _ _ npL hf19.2⟩
        have A22 : FAt (upd H21 L (.lst (acc ++ [.ref t21]))) x2 p { b0 with lifted := b.lifted, bars := b.bars } := ⟨m22 _ _ nxL2 (k18.dK A2.1), m22 _ _ npL hf19.2⟩
        have hL22 : upd H21 L (.lst (acc ++ [.ref t21])) L = some (.lst (acc ++ [.ref t21])) := upd_same
        have qL : H L = none := same_none (((((((sH12.trans s13).trans s14).trans s15).trans s16).trans s17).trans s18)) q19
        have sH22 : Same H (upd H21 L (.lst (acc ++ [.ref t21]))) := fun c o e => m22 c o (ne_of_none e qL) (sH19 _ _ e)
        generalize upd H21 L (.lst (acc ++ [.ref t21])) = H22 at *
        refine ⟨_, rfl, .inl ⟨rfl, _, SqL.of hL22⟩, _, rfl, d, _, rfl, hf22.bars, _, rfl, d, _, rfl, hf22.lifted, rfl, rfl, fun a5 dx5 qa5 qd5 nd5 => init_ok { b0 with lifted := b.lifted, bars := b.bars } p qa5 qd5 nd5 rfl ok2 (.inl hf22.2) fun y5 H23 s23 pm5 gd5 hb5 => ⟨rfl, ?_⟩⟩
        refine ⟨_, rfl, by show 2 ≤ sizeLine; decide, fun t24 q24 => ?_⟩
        generalize e24 : upd _ _ _ = H24; have s24 := new_s e24 q24; have f24 := new_f e24
        have hL24 := s24 _ _ (s23 _ _ hL22)
        refine ⟨L, _, _, rfl, rfl, hL24, by rw [List.length_append, List.length_singleton, hlen]; decide, ?_⟩
        have P5 : PairAt K L H24 (.ref t24) := ⟨t24, a5, x2, p, _, _, rfl, npL, f24, hb5.same s24, gd5, A22.kp (Kp.of (s23.trans s24)), ok2, rfl, pm5⟩
        have hacc25 : ∀ v ∈ acc ++ [.ref t21] ++ [.ref t24], PairAt K L (upd H24 L (.lst (acc ++ [.ref t21] ++ [.ref t24]))) v := fun v hv => by
          rcases List.mem_append.mp hv with hv | hv
          · exact (PairAt.kp (hacc22 v hv) (Kp.of (s23.trans s24))).put hL24
          · rw [List.mem_singleton.mp hv]
            exact P5.put hL24
        have hL25 : upd H24 L (.lst (acc ++ [.ref t21] ++ [.ref t24])) L = some (.lst (acc ++ [.ref t21] ++ [.ref t24])) := upd_same
        have sH25 : Same H (upd H24 L (.lst (acc ++ [.ref t21] ++ [.ref t24]))) := fun c o e => by
          rw [upd_ne (ne_of_none e qL)]
          exact s24 _ _ (s23 _ _ (sH22 _ _ e))
        have hlen5 : (acc ++ [V.ref t21] ++ [V.ref t24]).length = 5 := by simp [hlen]
        generalize acc ++ [V.ref t21] ++ [V.ref t24] = ac at *
        generalize upd H24 L (.lst ac) = H25 at *
        refine ⟨_, rfl, L, rfl, ⟨_, SqL.of hL25⟩, fun D hD => lc_list (K := K) (a := L) (xs := ac) (fun i H' => H' D = some (.lst []) ∧ Same H25 H') ⟨upd_same, same_new hD⟩ ?_ ?_ ?_⟩
        · rintro i H' _ ⟨_, sm⟩
          exact SqL.of (sm _ _ hL25)
        · rintro i x H' hx ⟨hD', sm⟩
          obtain ⟨t, a, dd, pd, bb, bf, rfl, _, ht, hbb, gdd, hfd, okd, e5, pmd⟩ := PairAt.kp (hacc25 x (List.mem_of_getElem? hx)) (Kp.of sm)
          refine ⟨t, _, rfl, .inl (.inl ht), rfl, _, _, rfl, _, _, rfl, rfl, rfl, _, rfl, _, rfl, a, dd, pd, bb, bf, rfl, hbb, gdd, hfd, okd, e5, pmd, fun H2 sm2 => ?_⟩
          exact ⟨true, rfl, iteF ⟨sm2 _ _ hD', sm.trans sm2⟩⟩
        · rintro H' ⟨hD', sm⟩
          refine ⟨by decide, fun l26 q26 => ?_⟩
          generalize e26 : upd _ _ _ = H26; have s26 := new_s e26 q26; have f26 := new_f e26
          exact ⟨D, l26, [], rfl, rfl, SqL.of (s26 _ _ hD'), SqL.of f26, k _ ((sH25.trans sm).trans s26)⟩
end

end HL

namespace HL
open PySem PySem.Spec PyProof.Rows L2


section
variable {P : Program} {w : World} {K : PySem.W.Frag} {mg : Str → Option Value} {base : Heap}
theorem cut_strs (zs : List Str) (lo hi : Option Int) : ∃ ws : List Str, cutV (zs.map V.str) lo hi = ws.map V.str ∧ ws.Sublist zs := by
  unfold cutV
  rw [← List.map_drop, ← List.map_take]
  exact ⟨_, rfl, (List.take_sublist _ _).trans (List.drop_sublist _ _)⟩
def strOf : V → Option Str
  | .str z => some z
  | _ => none
theorem strs_back : ∀ zs : List Str, (zs.map V.str).filterMap strOf = zs
  | [] => rfl
  | z :: r => by
    rw [List.map_cons, List.filterMap_cons, strs_back r]
    rfl
theorem strs_all : ∀ ys : List V, (∀ v ∈ ys, ∃ z, v = .str z) → ys = (ys.filterMap strOf).map V.str
  | [], _ => rfl
  | y :: r, h => by
    obtain ⟨z, rfl⟩ := h y List.mem_cons_self
    rw [List.filterMap_cons]
    show V.str z :: r = V.str z :: (r.filterMap strOf).map V.str
    rw [← strs_all r fun v hv => h v (List.mem_cons_of_mem _ hv)]
theorem perm_strs {ys : List V} {zs : List Str} (h : ys.Perm (zs.map V.str)) : ∃ ws : List Str, ys = ws.map V.str ∧ ws.Perm zs := by
  refine ⟨ys.filterMap strOf, strs_all ys fun v hv => ?_, ?_⟩
  · obtain ⟨z, _, e⟩ := List.mem_map.mp (h.mem_iff.mp hv)
    exact ⟨z, e.symm⟩
  · have q := h.filterMap strOf
    rw [strs_back] at q
    exact q
theorem a_with (T : Tx K mg) : At P w K mg base (mAt "Book" "with_bars" K) 5 ["self", "bars"] (spWith K) := by
  obtain ⟨fd, _, h2, h3⟩ := fn_with (P := P) (w := w) (base := base) T
  exact ⟨fd, h2, h3⟩
theorem pe_withK {X : Cx} {o : Expr} {ta : TE} {kws : List Keyword} {tk : TA} {apos pos : Pos} {pl : Sem Bool} (T : Tx X.K X.mg) (hr : Room 5 X.A) (he : PE X o ta) (hkw : PK X kws tk)
    (hall : (backToKw pos (keywordEach kws X.env)).all (·.1.isSome) = true := by rfl) (hks : (backToKw pos (keywordEach kws X.env)).filterMap (·.1) = ([Str.ofString "bars"] : List Str) := by rfl)
    (hpl : ((backTo pos (starEach [] X.env)).any (·.1) || (backToKw pos (keywordEach kws X.env)).any (·.1.isNone)) = false := by rfl)
    (ht : eval (.Call (.Attribute o "with_bars" apos) [] kws pos) X.env = (do
      let ov ← eval o X.env
      standAt apos.atName
      let (f, first) ← holding [ov] (getMethod ov "with_bars" pl)
      callWith pos f first (backTo pos (starEach [] X.env)) (backToKw pos (keywordEach kws X.env))) := by rfl) :
    PE X (.Call (.Attribute o "with_bars" apos) [] kws pos) (fun σ H Q => ta σ H fun x H1 => ∃ a dx fs, x = .ref a ∧ H1 a = some (.ins (He.ga X.K "Book") dx fs) ∧ fs.lookup (Str.ofString "with_bars") = none ∧ tk σ H1 fun zs H2 => zs.length = 1 ∧ spWith X.K ([.ref a] ++ zs) H2 Q E0) := by
  obtain ⟨fd, F, h2, h3⟩ := fn_with (P := X.prog) (w := X.w) (base := X.base) T
  exact pe_methK0 (pl := pl) he (cls_Book T) (me_Book_with_bars T) h2 hr (kb_with F) pass0 hkw hall hks hpl ht
def spWBR (P : Program) (w : World) (K : PySem.W.Frag) : Sp := fun vs H Q _ => ∃ (n : Nat) (d a f p : Addr) (b bf : Bk), vs = [.ref d, .ref a, .ref f] ∧ n + 20 < 1099511627776 ∧ Dr P w n H d ∧ BookAt K H a b ∧ b.Good ∧ FAt H f p bf ∧ bf.Ok ∧ b.five = bf.five ∧ b.bars.Perm bf.bars ∧
  ∀ H', SmD d H H' → Dr P w (n + 7) H' d → Q (.bl true) H'
theorem five_eq {b c : Bk} (h : b.five = c.five) : b.held = c.held ∧ b.each = c.each ∧ b.lifted = c.lifted ∧ b.ends = c.ends ∧ b.works = c.works := by
  unfold Bk.five at h
  injection h with h1 h
  injection h with h2 h
  injection h with h3 h
  injection h with h4 h
  injection h with h5 h
  exact ⟨h1, h2, h3, h4, h5⟩
theorem Bk.Ok.cut {b : Bk} (h : b.Ok) {zs : List Str} (h1 : ∀ z ∈ zs, z ∈ bars6) (h2 : zs.Nodup) : ({ b with bars := zs } : Bk).Ok := ⟨h.h, h.e, h.l, h.n, h.k, h1, h2⟩
theorem nf_self {C : Addr} : PySem.W.notFirst K C (.ref C) = true := by
  unfold PySem.W.notFirst
  simp
theorem has_wbr (T : Tx K mg) : HasG P w K mg base "_law_with_bars_right" 7 ["_law_draw", "_law_made", "_law_fields"] (spWBR P w K) := by
  have h_law_is_told : HasG P w K mg base "_law_is_told" 3 ["_law_made", "_law_fields"] (spTold K) := has_told T
  have h_law_all_bars : Has P w K mg base "_law_all_bars" 1 [] spAll := has_all T
  have h_law_take : Has P w K mg base "_law_take" 2 ["_law_draw", "_law_size"] (spTake P w) := has_take T
  have h_law_shuffled : Has P w K mg base "_law_shuffled" 3 ["_law_draw", "_law_some"] (spShuffled P w K) := has_shuffled T
  have h_law_book : Has P w K mg base "_law_book" 5 ["_law_fields"] (spBook K) := has_book T
  have a_Book_with_bars := a_with (P := P) (w := w) (base := base) T
  have a_Book_bars := a_bars (P := P) (w := w) (base := base) T
  refine hasg_of (k := 6) (g_law_with_bars_right T) (d_law_with_bars_right T) sc_law_with_bars_right (fun _ _ _ _ _ _ us hl => match us, hl with | [_, _, _], _ => rfl) (fun vs H Q E h => ?_) (fun cdv A outer s H vs Q E gd hr h => ?_)
  · obtain ⟨n, d, a, f, p, b, bf, rfl, _⟩ := h
    rfl
  · obtain ⟨n, d, a, f, p, b, bf, rfl, hn, dr, hb, gb, hf, okf, ev, pm, k⟩ := h
    have hu := hu_of hr
    refine ⟨_, (pss_cons (ps_set (i := 3) sc_law_with_bars_right.nd rfl (Or.inl rfl) (pe_callTy call_dictD (by rfl) (m_dict T) boot_dict (pa_cons (pv 2) pa_nil))) (pss_cons (ps_dput hu (pv 3) pe_str (pe_slice sl_list (pe_has h_law_shuffled (hr.mono (by decide)) rfl (pa_cons (pv 0) (pa_cons (pe_has0 h_law_all_bars (hr.mono (by decide)) rfl) pa_nil))) po_none (po_some (pe_has h_law_take (hr.mono (by decide)) rfl (pa_cons (pv 0) (pa_cons pe_int pa_nil))))) rfl) (pss_cons (ps_set (i := 4) sc_law_with_bars_right.nd rfl (Or.inl rfl) (pe_callTy call_list_of (by rfl) (m_list T) boot_list (pa_cons (pe_dget hu (pv 3) pe_str (fun _ _ => rfl)) pa_nil))) (pss_cons (ps_set (i := 5) sc_law_with_bars_right.nd rfl (Or.inl rfl) (pe_at a_Book_with_bars (cls_Book T) (me_Book_with_bars T) (hr.mono (by decide)) (pv 1) (pa_cons (pv 4) pa_nil))) (pss_cons (ps_expr (pe_bm PySem.F.plainAttrs_list PySem.F.slot_list_append PySem.F.type_list_append mt_append (pv 4) (pa_cons pe_str pa_nil))) (pss_cons (ps_if (PW.pt (pw_or (pt_not (pt_val (pe_hasg gd h_law_is_told (hr.mono (by decide)) rfl (pa_cons (pv 5) (pa_cons (pv 3) pa_nil))))) (pw_or1 (pt_not (pt_val (pe_hasg gd h_law_is_told (hr.mono (by decide)) rfl (pa_cons ((pe_withK T (hr.mono (by decide))) (pv 1) (pk_cons (pe_callTy call_tuple_of (by rfl) (m_tuple T) boot_tuple (pa_cons (pe_dget hu (pv 3) pe_str (fun _ _ => rfl)) pa_nil)) pk_nil)) (pa_cons (pv 3) pa_nil)))))))) (pss_one (ps_ret pe_bl)) pss_nil) (pss_one (ps_ret (pe_and (pe_hasg gd h_law_is_told (hr.mono (by decide)) rfl (pa_cons (pv 1) (pa_cons (pv 2) pa_nil))) (pe_and (pe_cmpR (op_eqA (a_eq T) (eq_Book T) (hr.mono (by decide))) (pe_at a_Book_with_bars (cls_Book T) (me_Book_with_bars T) (hr.mono (by decide)) (pv 1) (pa_cons (pe_atP a_Book_bars (cls_Book T) (pr_Book_bars T) (hr.mono (by decide)) (pv 1)) pa_nil)) (pv 1) (nomark _)) (pe_one (pe_cmpR (op_eqA (a_eq T) (eq_Book T) (hr.mono (by decide))) (pv 5) (pe_has h_law_book (hr.mono (by decide)) rfl (pa_cons (pv 3) pa_nil)) (nomark _))))))))))))), ?_⟩
    refine ⟨_, rfl, f, _, rfl, .inl hf.1, fun x1 q1 => ?_⟩
    generalize e1 : upd _ _ _ = H1; have s1 := new_s e1 q1; have f1 := new_f e1
    refine ⟨_, rfl, rfl, fun l2 q2 => ?_⟩
    generalize e2 : upd _ _ _ = H2; have s2 := new_s e2 q2; have f2 := new_f e2
    have dr2 := (dr.same s1).same s2
    refine ⟨n, d, l2, _, rfl, by show n + 6 < _; omega, dr2, SqL.of f2, by show 6 ≤ 100000; decide, fun l3 ys H3 py q3 sm3 dr3 f3 => ?_⟩
    obtain ⟨zs, rfl, pz⟩ := perm_strs py
    have hz6 : ∀ z ∈ zs, z ∈ bars6 := fun z hz => pz.mem_iff.mp hz
    have hzn : zs.Nodup := pz.nodup_iff.mpr (by decide)
    refine ⟨_, rfl, n + 6, d, 7, rfl, by decide, by decide, by omega, dr3, fun kk H4 k0 k1 sm4 dr4 => ⟨kk, rfl, ?_⟩⟩
    have f34 := (dr3.kp sm4).lst f3
    refine ⟨l3, _, rfl, SqL.of f34, fun p5 q5 => ?_⟩
    obtain ⟨ws, ew, sw⟩ := cut_strs zs none (some kk)
    rw [ew]
    generalize e5 : upd _ _ _ = H5; have s5 := new_s e5 q5; have f5 := new_f e5
    have sm24 : SmD d H2 H4 := sm3.trans sm4
    have x14 := sm24 _ _ (dr2.at_ (s2 _ _ f1) (fun _ z => by cases z)) (s2 _ _ f1)
    have x15 := s5 _ _ x14
    refine ⟨_, rfl, x1, _, rfl, DPut.k (k := .inr "bars") x15 (by show 6 < sizeLine; decide), ?_⟩
    generalize e6 : upd H5 x1 _ = H6
    have x16 : H6 x1 = some (.dK (fkv { bf with bars := ws } p5)) := new_f e6
    have np5 : p5 ≠ x1 := (ne_of_none x14 q5).symm
    have f56 : H6 p5 = some (.lst (ws.map V.str)) := by
      rw [← e6, upd_ne np5]
      exact f5
    have sm6 : SmD d H H6 := fun c o nc e => by
      rw [← e6, upd_ne (ne_of_none e q1)]
      exact s5 _ _ (sm24 c o nc (s2 _ _ (s1 _ _ e)))
    have dr6 : Dr P w (n + 7) H6 d := by
      rw [← e6]
      exact ((dr4.same s5).put x15 (fun _ z => by cases z)).mono (by omega)
    have k6 : Kp H H6 := dr.kp sm6
    have hf6 := hf.kp k6
    have hb6 := hb.kp k6
    have fo6 : FAt H6 x1 p5 { bf with bars := ws } := ⟨x16, f56⟩
    have w6 : ∀ z ∈ ws, z ∈ bars6 := fun z hz => hz6 z (sw.subset hz)
    have wn : ws.Nodup := sw.nodup hzn
    have oko : ({ bf with bars := ws } : Bk).Ok := okf.cut w6 wn
    have okb : ({ b with bars := ws } : Bk).Ok := gb.ok.cut w6 wn
    have wl : ws.length ≤ 6 := oko.few
    clear e6 x15 x14 f34 q3
    refine ⟨_, rfl, x1, _, rfl, fo6.bars, p5, _, rfl, .inl (SqL.of f56), fun g q7 => ?_⟩
    generalize e7 : upd _ _ _ = H7; have s7 := new_s e7 q7; have f7 := new_f e7
    have hb7 := hb6.same s7
    obtain ⟨dx, t0, ha7, ht7⟩ := id hb7
    refine ⟨_, rfl, a, dx, _, rfl, ha7, rfl, _, rfl, a, g, b, ws, rfl, hb7, okb, .inl f7, fun c yc H8 s8 qc pyc gc hc => ?_⟩
    have fg8 := s8 _ _ f7
    refine ⟨_, rfl, .inl ⟨rfl, _, SqL.of fg8⟩, g, _, _, rfl, rfl, fg8, by rw [List.length_map]; exact Nat.lt_of_le_of_lt wl (by decide), ?_⟩
    generalize e9 : upd H8 g _ = H9
    have m9 : ∀ u o, u ≠ g → H8 u = some o → H9 u = some o := fun u o nu e => by
      rw [← e9, upd_ne nu]
      exact e
    have sm9 : SmD d H H9 := fun u o nu e => m9 u o (ne_of_none (sm6 u o nu e) q7) (s8 _ _ (s7 _ _ (sm6 u o nu e)))
    have dr9 : Dr P w (n + 7) H9 d := by
      rw [← e9]
      exact ((dr6.same s7).same s8).put fg8 (fun _ z => by cases z)
    have k69 : ∀ u o, H6 u = some o → H9 u = some o := fun u o e => m9 u o (ne_of_none e q7) (s8 _ _ (s7 _ _ e))
    have s69 : Same H6 H9 := k69
    have hf9 := hf6.kp (Kp.of s69)
    have hb9 := hb6.same s69
    have fo9 := fo6.kp (Kp.of s69)
    have hc9 : BookAt K H9 c { b with bars := yc } := by
      obtain ⟨dc, tc, h1, h2⟩ := hc
      refine ⟨dc, tc, m9 _ _ (ne_of h1 fg8 (by intro z; cases z)) h1, ?_⟩
      rcases h2 with (h2 | ⟨o, h2⟩) | h2
      · exact .inl (.inl (m9 _ _ (ne_of h2 fg8 (by intro z; cases z)) h2))
      · exact .inl (.inr ⟨o, m9 _ _ (ne_of h2 fg8 (by intro z; cases z)) h2⟩)
      · exact .inr h2
    clear e9 m9 k69 hb7 ha7 ht7 fg8 f7 dx t0
    refine ⟨_, rfl, _, rfl, c, x1, p5, _, _, rfl, hc9, gc, fo9, oko, ev, pyc, fun H10 s10 => ⟨true, rfl, iteF ?_⟩⟩
    have hb10 := hb9.same s10
    obtain ⟨dx, t0, ha10, ht10⟩ := id hb10
    have fo10 := fo9.kp (Kp.of s10)
    refine ⟨_, rfl, a, dx, _, rfl, ha10, rfl, _, rfl, x1, _, rfl, fo10.bars, p5, _, rfl, .inl ⟨SqL.of fo10.2, fun t11 q11 => ?_⟩⟩
    generalize e11 : upd _ _ _ = H11; have s11 := new_s e11 q11; have f11 := new_f e11
    refine ⟨rfl, a, t11, b, ws, rfl, hb10.same s11, okb, .inr (.inl (.inl f11)), fun c2 y2 H12 s12 qc2 py2 g2 hc2 => ?_⟩
    have fo12 := fo10.kp (Kp.of (s11.trans s12))
    refine ⟨_, rfl, c2, x1, p5, _, _, rfl, hc2, g2, fo12, oko, ev, py2, fun H13 s13 => ⟨true, rfl, iteF ?_⟩⟩
    have s913 : Same H9 H13 := ((s10.trans s11).trans s12).trans s13
    have hb13 := hb9.same s913
    have hf13 := hf9.kp (Kp.of s913)
    refine ⟨_, rfl, _, rfl, a, f, p, b, bf, rfl, hb13, gb, hf13, okf, ev, pm, fun H14 s14 => ⟨true, rfl, iteT ?_⟩⟩
    have hb14 := hb13.same s14
    obtain ⟨dy, ty, ha14, hy14⟩ := id hb14
    refine ⟨_, rfl, a, dy, _, rfl, ha14, rfl, _, rfl, a, dy, _, rfl, ha14, a, dy, _, _, rfl, ha14, rfl, a, ty, b, b.bars, rfl, hb14, gb.ok, .inr hy14, fun c3 y3 H15 s15 qc3 py3 g3 hc3 => ?_⟩
    obtain ⟨dz, tz, hz15, _⟩ := id hc3
    have ey3 : y3 = b.bars := sortedS_one g3.so gb.so py3
    have hb15 := hb14.same s15
    obtain ⟨dv, tv, hv15, _⟩ := id hb15
    refine ⟨_, rfl, c3, dz, _, _, rfl, hz15, ins_ty (in_Book T) (cls_Book T) hv15, nf_self, c3, _, _, rfl, hc3, g3.ok, .inl ⟨a, b, rfl, hb15, gb.ok, fun H16 s16 => ⟨_, rfl, ?_⟩⟩⟩
    rw [decide_eq_true (show ({ b with bars := y3 } : Bk).five = b.five ∧ y3 = b.bars from ⟨rfl, ey3⟩)]
    refine ⟨true, rfl, iteT ?_⟩
    have s1316 : Same H13 H16 := (s14.trans s15).trans s16
    have s916 : Same H9 H16 := s913.trans s1316
    have fo16 := fo9.kp (Kp.of s916)
    refine ⟨_, rfl, _, rfl, x1, p5, _, rfl, fo16, oko, fun a4 y4 H17 s17 qa4 py4 g4 hb4 => ?_⟩
    have hc17 := (hc9.same s916).same s17
    obtain ⟨dc, tc, hc17', _⟩ := id hc17
    obtain ⟨d4, t4, h417, _⟩ := id hb4
    have ey4 : yc = y4 := sortedS_one gc.so g4.so (pyc.trans py4.symm)
    refine ⟨c, dc, _, _, rfl, hc17', ins_ty (in_Book T) (cls_Book T) h417, nf_self, c, _, _, rfl, hc17, gc.ok, .inl ⟨a4, _, rfl, hb4, g4.ok, fun H18 s18 => ⟨_, rfl, ?_⟩⟩⟩
    rw [decide_eq_true (show ({ b with bars := yc } : Bk).five = ({ bf with bars := y4 } : Bk).five ∧ yc = y4 from ⟨ev, ey4⟩)]
    exact k H18 (sm9.sm ((s916.trans s17).trans s18)) (dr9.same ((s916.trans s17).trans s18))
end

end HL

namespace HL
open PySem PySem.Spec PyProof.Rows L2


section
variable {P : Program} {w : World} {K : PySem.W.Frag} {mg : Str → Option Value} {base : Heap}
def ends4 : List Str := ["ended", "left", "missing", "strayed"]
def spLaw (K : PySem.W.Frag) : Sp := fun vs H Q _ => ∃ (a : Addr) (ns : List Int), vs = [.ref a] ∧ SqL K H a (ns.map V.int) ∧ ns.length ≤ 63 ∧ ∀ H', Q (.bl true) H'
theorem fn_law (T : Tx K mg) {fd : FuncData} (F : FunD K "law" "law" (defArgs s_law) (defBody s_law) (defScope s_law) (dd_law.dvs K) (dd_law.kws K) (gAt "law" K) fd) : FnG P w K mg base CX0 9 (gAt "law" K) fd ["_law_script"] (spLaw K) := by
  have h_law_begun : Has P w K mg base "_law_begun" 1 ["_law_script"] (spBegun P w K) := has_begun T
  have h_law_shuffled : Has P w K mg base "_law_shuffled" 3 ["_law_draw", "_law_some"] (spShuffled P w K) := has_shuffled T
  have h_law_odd : Has P w K mg base "_law_odd" 4 ["_law_draw"] (spOdd P w K) := has_odd T
  have h_law_all_bars : Has P w K mg base "_law_all_bars" 1 [] spAll := has_all T
  have h_law_book : Has P w K mg base "_law_book" 5 ["_law_fields"] (spBook K) := has_book T
  have h_law_any_fields : Has P w K mg base "_law_any_fields" 4 ["_law_draw"] (spAny P w) := has_any T
  have h_law_is_told : HasG P w K mg base "_law_is_told" 3 ["_law_made", "_law_fields"] (spTold K) := has_told T
  have h_law_others : Has P w K mg base "_law_others" 2 ["_law_fields"] spOthers := has_others T
  have h_law_left_out_right : HasG P w K mg base "_law_left_out_right" 5 ["_law_fields"] spLeft := has_left T
  have h_law_with_bars_right : HasG P w K mg base "_law_with_bars_right" 7 ["_law_draw", "_law_made", "_law_fields"] (spWBR P w K) := has_wbr T
  have a_Book_bars := a_bars (P := P) (w := w) (base := base) T
  refine okG (k := 8) F sc_law (fun vs H Q E h => ?_) (fun cdv A outer s H vs Q E gd hr h => ?_)
  · obtain ⟨a, ns, rfl, _⟩ := h
    rfl
  · obtain ⟨a, ns, rfl, hS, hlen, k⟩ := h
    have hu := hu_of hr
    refine ⟨_, (pss_cons (ps_set (i := 1) sc_law.nd rfl (Or.inl rfl) (pe_has h_law_begun (hr.mono (by decide)) rfl (pa_cons (pv 0) pa_nil))) (pss_cons (ps_for PassesOwn.never rfl (pi_range1 (by rfl) (m_range T) (pa_cons (pe_op op_add pe_int (pe_callB (call_min2 rfl) (by rfl) (m_min T) boot_min (pa_cons (pe_callB call_len_seq (by rfl) (m_len T) boot_len (pa_cons (pv 0) pa_nil)) (pa_cons pe_int pa_nil)))) pa_nil)) (pg_name (i := 2) sc_law.nd rfl (Or.inl rfl)) (pss_cons (ps_set (i := 3) sc_law.nd rfl (Or.inl rfl) (pe_has h_law_any_fields (hr.mono (by decide)) rfl (pa_cons (pv 1) pa_nil))) (pss_cons (ps_set (i := 4) sc_law.nd rfl (Or.inl rfl) (pe_has h_law_shuffled (hr.mono (by decide)) rfl (pa_cons (pv 1) (pa_cons (pe_dget hu (pv 3) pe_str (fun _ _ => rfl)) pa_nil)))) (pss_cons (ps_set (i := 5) sc_law.nd rfl (Or.inl rfl) (pe_newB T kb_bars_works_ends_lifted_each_held (hr.mono (by decide)) rfl (pk_cons (pv 4) (pk_cons (pe_dget hu (pv 3) pe_str (fun _ _ => rfl)) (pk_cons (pe_dget hu (pv 3) pe_str (fun _ _ => rfl)) (pk_cons (pe_dget hu (pv 3) pe_str (fun _ _ => rfl)) (pk_cons (pe_dget hu (pv 3) pe_str (fun _ _ => rfl)) (pk_cons (pe_dget hu (pv 3) pe_str (fun _ _ => rfl)) pk_nil)))))))) (pss_cons (ps_expr (pe_bm PySem.F.plainAttrs_list PySem.F.slot_list_append PySem.F.type_list_append mt_append (pv 4) (pa_cons pe_non pa_nil))) (pss_cons (ps_if (PW.pt (pw_or (pt_not (pt_val (pe_hasg gd h_law_is_told (hr.mono (by decide)) rfl (pa_cons (pv 5) (pa_cons (pv 3) pa_nil))))) (pw_or (pt_not (pt_cmpR (op_eqA (a_eq T) (eq_Book T) (hr.mono (by decide))) (pv 5) (pe_has h_law_book (hr.mono (by decide)) rfl (pa_cons (pv 3) pa_nil)) (nomark _))) (pw_or1 (pt_cmpR (op_neA (a_eq T) (eq_Book T) (hr.mono (by decide))) (pv 5) (pe_has h_law_book (hr.mono (by decide)) rfl (pa_cons (pv 3) pa_nil)) (nomark _)))))) (pss_one (ps_ret pe_bl)) pss_nil) (pss_cons (ps_for PassesOwn.never rfl (pi_list (pe_has h_law_others (hr.mono (by decide)) rfl (pa_cons (pv 3) pa_nil))) (pg_name (i := 6) sc_law.nd rfl (Or.inl rfl)) (pss_one (ps_if (PW.pt (pw_or (pt_cmpR (op_eqA (a_eq T) (eq_Book T) (hr.mono (by decide))) (pv 5) (pe_has h_law_book (hr.mono (by decide)) rfl (pa_cons (pv 6) pa_nil)) (nomark _)) (pw_or1 (pt_not (pt_cmpR (op_neA (a_eq T) (eq_Book T) (hr.mono (by decide))) (pv 5) (pe_has h_law_book (hr.mono (by decide)) rfl (pa_cons (pv 6) pa_nil)) (nomark _)))))) (pss_one (ps_ret pe_bl)) pss_nil))) (pss_cons (ps_if (PW.pt (pw_or (pt_not (pt_val (pe_hasg gd h_law_left_out_right (hr.mono (by decide)) rfl (pa_cons (pv 3) pa_nil)))) (pw_or1 (pt_not (pt_val (pe_hasg gd h_law_with_bars_right (hr.mono (by decide)) rfl (pa_cons (pv 1) (pa_cons (pv 5) (pa_cons (pv 3) pa_nil))))))))) (pss_one (ps_ret pe_bl)) pss_nil) (pss_one (ps_for PassesOwn.never rfl (pi_list (pe_lst (pa_cons (pe_has h_law_odd (hr.mono (by decide)) rfl (pa_cons (pv 1) pa_nil)) (pa_cons (pv 3) (pa_cons (pe_atP a_Book_bars (cls_Book T) (pr_Book_bars T) (hr.mono (by decide)) (pv 5)) (pa_cons pe_str pa_nil)))))) (pg_name (i := 7) sc_law.nd rfl (Or.inl rfl)) (pss_one (ps_if (PW.pt (pw_or (pt_cmpR (op_eqA (a_eq T) (eq_Book T) (hr.mono (by decide))) (pv 5) (pv 7) (nomark _)) (pw_or1 (pt_not (pt_cmpR (op_neA (a_eq T) (eq_Book T) (hr.mono (by decide))) (pv 5) (pv 7) (nomark _)))))) (pss_one (ps_ret pe_bl)) pss_nil)))))))))))) (pss_one (ps_ret (pe_and (pe_cmpR (op_eqD hr.units) (pe_callTy call_list_of (by rfl) (m_list T) boot_list (pa_cons (pe_glob (v := .ref (He.ga K "BARS")) rfl (g_BARS T) rfl) pa_nil)) (pe_has0 h_law_all_bars (hr.mono (by decide)) rfl) (nomark _)) (pe_one (pe_cmpR op_eq (pe_callB (call_repr gd hr.units) (by rfl) (m_repr T) boot_repr (pa_cons (pe_tup (pa_cons (pe_glob (v := .ref (He.ga K "BARS")) rfl (g_BARS T) rfl) (pa_cons (pe_glob (v := .ref (He.ga K "FAULTS")) rfl (g_FAULTS T) rfl) pa_nil))) pa_nil)) (pe_callB (call_repr gd hr.units) (by rfl) (m_repr T) boot_repr (pa_cons (pe_tup (pa_cons (pe_callTy call_tuple_of (by rfl) (m_tuple T) boot_tuple (pa_cons (pe_has0 h_law_all_bars (hr.mono (by decide)) rfl) pa_nil)) (pa_cons (pe_tup (pa_cons pe_str (pa_cons pe_str (pa_cons pe_str (pa_cons pe_str pa_nil))))) pa_nil))) pa_nil)) (nomark _)))))))), ?_⟩
    refine ⟨_, rfl, a, ns, rfl, hS, hlen, fun d H1 s1 qd dr => ?_⟩
    have hS1 := s1.seq hS
    obtain ⟨m, em, hm⟩ : ∃ m : Nat, (3 : Int) + (if (12 : Int) < (((ns.map V.int).length : Nat) : Int) then (12 : Int) else (((ns.map V.int).length : Nat) : Int)) = (m : Int) ∧ m ≤ 15 := by
      by_cases h : (12 : Int) < ((ns.map V.int).length : Nat)
      · rw [if_pos h]
        exact ⟨15, rfl, Nat.le_refl _⟩
      · rw [if_neg h]
        exact ⟨3 + (ns.map V.int).length, by omega, by omega⟩
    refine ⟨_, rfl, a, _, rfl, .inl hS1, _, _, rfl, _, _, rfl, rfl, (m : Int), congrArg (fun z => [V.int z]) em, ?_⟩
    refine ⟨by omega, by omega, ?_⟩
    rw [show Int.toNat (m : Int) = m from Int.toNat_natCast m]
    refine for_range (fun i σ H' => ∃ o2 o3 o4 o5 o6 o7 : Option V, σ = [some (.ref a), some (.ref d), o2, o3, o4, o5, o6, o7] ∧ Dr P w (25 * i) H' d) ⟨_, _, _, _, _, _, rfl, dr⟩ ?_ ?_
    · rintro i σ H2 hi ⟨o2, o3, o4, o5, o6, o7, rfl, dr2⟩
      refine ⟨_, rfl, 25 * i, d, rfl, by omega, dr2, fun f p b H3 okb hf3 sm3 dr3 qf qp => ?_⟩
      refine ⟨_, rfl, _, rfl, f, _, rfl, hf3.bars, 25 * i + 11, d, p, _, rfl, by rw [List.length_map]; have := okb.few; omega, dr3, SqL.of hf3.2, by rw [List.length_map]; have := okb.few; omega, fun g ys H4 py qg sm4 dr4 hg => ?_⟩
      obtain ⟨zs, rfl, pz⟩ := perm_strs py
      have k4 := dr3.kp sm4
      have hf4 := hf3.kp k4
      have okz : ({ b with bars := zs } : Bk).Ok := okb.perm pz
      have dr4 : Dr P w (25 * i + 17) H4 d := dr4.mono (by rw [List.length_map]; have := okb.few; omega)
      refine ⟨_, rfl, _, rfl, f, _, rfl, hf4.works, _, rfl, f, _, rfl, hf4.ends, _, rfl, f, _, rfl, hf4.lifted, _, rfl, f, _, rfl, hf4.each, _, rfl, f, _, rfl, hf4.held, rfl, rfl, fun a1 dx1 qa qd nd => init_ok { b with bars := zs } g qa qd nd rfl okz (.inl hg) fun y5 H5 s5 pm5 g5 hb5 => ⟨rfl, ?_⟩⟩
      have hg5 := s5 _ _ hg
      refine ⟨_, rfl, .inl ⟨rfl, _, SqL.of hg5⟩, g, _, _, rfl, rfl, hg5, by rw [List.length_map]; exact Nat.lt_of_le_of_lt okz.few (by decide), ?_⟩
      generalize e6 : upd H5 g _ = H6
      have m6 : ∀ u o, u ≠ g → H5 u = some o → H6 u = some o := fun u o nu e => by
        rw [← e6, upd_ne nu]
        exact e
      have npg : p ≠ g := ne_of_none hf3.2 qg
      have hf6 : FAt H6 f p b := ⟨m6 _ _ (ne_of (s5 _ _ hf4.1) hg5 (by intro z; cases z)) (s5 _ _ hf4.1), m6 _ _ npg (s5 _ _ hf4.2)⟩
      have hb6 : BookAt K H6 a1 { b with bars := y5 } := by
        obtain ⟨dc, tc, h1, h2⟩ := hb5
        refine ⟨dc, tc, m6 _ _ (ne_of h1 hg5 (by intro z; cases z)) h1, ?_⟩
        rcases h2 with (h2 | ⟨o, h2⟩) | h2
        · exact .inl (.inl (m6 _ _ (ne_of h2 hg5 (by intro z; cases z)) h2))
        · exact .inl (.inr ⟨o, m6 _ _ (ne_of h2 hg5 (by intro z; cases z)) h2⟩)
        · exact .inr h2
      have dr6 : Dr P w (25 * i + 17) H6 d := by
        rw [← e6]
        exact (dr4.same s5).put hg5 (fun _ z => by cases z)
      have pmb : y5.Perm b.bars := pm5.trans pz
      clear e6 m6 hb5 hg5 hg py
      refine ⟨_, rfl, _, rfl, a1, f, p, _, b, rfl, hb6, g5, hf6, okb, rfl, pmb, fun H7 s7 => ⟨true, rfl, iteF ?_⟩⟩
      have hf7 := hf6.kp (Kp.of s7)
      have hb7 := hb6.same s7
      refine ⟨_, rfl, _, rfl, f, p, b, rfl, hf7, okb, fun a8 y8 H8 s8 qa8 pm8 g8 hb8 => ?_⟩
      have hb8' := hb7.same s8
      obtain ⟨da, ta, ha8, _⟩ := id hb8'
      obtain ⟨dc, tc, hc8, _⟩ := id hb8
      have ey : y5 = y8 := sortedS_one g5.so g8.so (pmb.trans pm8.symm)
      refine ⟨a1, da, _, _, rfl, ha8, ins_ty (in_Book T) (cls_Book T) hc8, nf_self, a1, _, _, rfl, hb8', g5.ok, .inl ⟨a8, _, rfl, hb8, g8.ok, fun H9 s9 => ⟨_, rfl, _, rfl, ?_⟩⟩⟩
      rw [decide_eq_true (show ({ b with bars := y5 } : Bk).five = ({ b with bars := y8 } : Bk).five ∧ y5 = y8 from ⟨rfl, ey⟩)]
      refine iteF ?_
      have hf9 := hf7.kp (Kp.of (s8.trans s9))
      have hb9 := hb8'.same s9
      refine ⟨_, rfl, _, rfl, f, p, b, rfl, hf9, okb, fun a10 y10 H10 s10 qa10 pm10 g10 hb10 => ?_⟩
      have hb10' := hb9.same s10
      obtain ⟨da10, ta10, ha10, _⟩ := id hb10'
      obtain ⟨dc10, tc10, hc10, _⟩ := id hb10
      have ey10 : y5 = y10 := sortedS_one g5.so g10.so (pmb.trans pm10.symm)
      refine ⟨a1, da10, _, _, rfl, ha10, ins_ty (in_Book T) (cls_Book T) hc10, nf_self, a1, _, _, rfl, hb10', g5.ok, .inl ⟨a10, _, rfl, hb10, g10.ok, fun H11 s11 => ⟨_, rfl, _, rfl, ?_⟩⟩⟩
      rw [decide_eq_true (show ({ b with bars := y5 } : Bk).five = ({ b with bars := y10 } : Bk).five ∧ y5 = y10 from ⟨rfl, ey10⟩)]
      refine iteF ?_
      have s611 : Same H6 H11 := ((((s7.trans s8).trans s9).trans s10).trans s11)
      have hf11 := hf6.kp (Kp.of s611)
      have hb11 := hb6.same s611
      have dr11 := dr6.same s611
      clear hb10' hb10 ha10 hc10 hb9 hf9 hb8 hb8' ha8 hc8 hb7 hf7
      refine ⟨_, rfl, f, p, b, rfl, hf11, okb, fun F acc H12 s12 qF hF hlenF ho => ?_⟩
      have hf12 := hf11.kp (Kp.of s12)
      have hb12 := hb11.same s12
      have dr12 := dr11.same s12
      refine ⟨F, rfl, ⟨_, SqL.of hF⟩, for_list (K := K) (a := F) (xs := acc) (fun j σ H' => ∃ o6 o7 : Option V, σ = [some (.ref a), some (.ref d), some (.int (0 + i)), some (.ref f), some (.ref g), some (.ref a1), o6, o7] ∧ Same H12 H') ⟨_, _, rfl, Same.refl _⟩ ?_ ?_ ?_⟩
      · rintro j σ H' _ ⟨_, _, _, sm⟩
        exact SqL.of (sm _ _ hF)
      · rintro j x σ H13 hx ⟨o6, o7, rfl, sm13⟩
        obtain ⟨xo, po, bo, rfl, npo, hfo, oko, neo⟩ := ho x (List.mem_of_getElem? hx)
        have hfo13 := hfo.kp (Kp.of sm13)
        have hb13 := hb12.same sm13
        refine ⟨_, rfl, _, rfl, xo, po, bo, rfl, hfo13, oko, fun a14 y14 H14 s14 qa14 pm14 g14 hb14 => ?_⟩
        have hb14' := hb13.same s14
        obtain ⟨da, ta, ha14, _⟩ := id hb14'
        obtain ⟨dc, tc, hc14, _⟩ := id hb14
        refine ⟨a1, da, _, _, rfl, ha14, ins_ty (in_Book T) (cls_Book T) hc14, nf_self, a1, _, _, rfl, hb14', g5.ok, .inl ⟨a14, _, rfl, hb14, g14.ok, fun H15 s15 => ⟨_, rfl, _, rfl, ?_⟩⟩⟩
        rw [decide_eq_false (show ¬ (({ b with bars := y5 } : Bk).five = ({ bo with bars := y14 } : Bk).five ∧ y5 = y14) from fun q => neo ⟨q.1.symm, (pm14.symm.trans (q.2 ▸ pmb))⟩)]
        refine iteF ?_
        have hfo15 := hfo13.kp (Kp.of (s14.trans s15))
        have hb15 := hb14'.same s15
        refine ⟨_, rfl, _, rfl, xo, po, bo, rfl, hfo15, oko, fun a16 y16 H16 s16 qa16 pm16 g16 hb16 => ?_⟩
        have hb16' := hb15.same s16
        obtain ⟨da6, ta6, ha16, _⟩ := id hb16'
        obtain ⟨dc6, tc6, hc16, _⟩ := id hb16
        refine ⟨a1, da6, _, _, rfl, ha16, ins_ty (in_Book T) (cls_Book T) hc16, nf_self, a1, _, _, rfl, hb16', g5.ok, .inl ⟨a16, _, rfl, hb16, g16.ok, fun H17 s17 => ⟨_, rfl, _, rfl, ?_⟩⟩⟩
        rw [decide_eq_false (show ¬ (({ b with bars := y5 } : Bk).five = ({ bo with bars := y16 } : Bk).five ∧ y5 = y16) from fun q => neo ⟨q.1.symm, (pm16.symm.trans (q.2 ▸ pmb))⟩)]
        exact iteF ⟨_, _, rfl, (((sm13.trans s14).trans s15).trans s16).trans s17⟩
      · rintro σ H13 ⟨o6, o7, rfl, sm13⟩
        have hf13 := hf12.kp (Kp.of sm13)
        have hb13 := hb12.same sm13
        have dr13 := dr12.same sm13
        refine ⟨_, rfl, f, p, b, rfl, hf13, okb, fun H14 s14 => ⟨true, rfl, iteF ?_⟩⟩
        have hf14 := hf13.kp (Kp.of s14)
        have hb14 := hb13.same s14
        have dr14 := dr13.same s14
        refine ⟨_, rfl, _, rfl, _, rfl, 25 * i + 17, d, a1, f, p, _, b, rfl, by omega, dr14, hb14, g5, hf14, okb, rfl, pmb, fun H15 sm15 dr15 => ⟨true, rfl, iteF ?_⟩⟩
        have k15 := dr14.kp sm15
        have hf15 := hf14.kp k15
        have hb15 := hb14.kp k15
        refine ⟨_, rfl, 25 * i + 24, d, rfl, by omega, dr15, fun v tv H16 htv tyv sm16 dr16 => ?_⟩
        have k16 := dr15.kp sm16
        have hf16 := hf15.kp k16
        have hb16 := hb15.kp k16
        obtain ⟨da, ta, ha16, ht16⟩ := id hb16
        refine ⟨_, rfl, _, rfl, a1, da, _, rfl, ha16, a1, da, _, _, rfl, ha16, rfl, by show 4 ≤ sizeLine; decide, fun L q17 => ?_⟩
        generalize e17 : upd _ _ _ = H17; have s17 := new_s e17 q17; have f17 := new_f e17
        have hb17 := hb16.same s17
        have dr17 : Dr P w (25 * (i + 1)) H17 d := (dr16.same s17).mono (by omega)
        obtain ⟨xs, hL, hxs⟩ : ∃ xs : List V, H17 L = some (.lst xs) ∧ ∀ v ∈ xs, ∃ t ∈ kinds7, TyX K H17 v (.type t) := by
          refine ⟨_, f17, fun u hu => ?_⟩
          simp only [List.mem_cons, List.not_mem_nil, or_false] at hu
          rcases hu with rfl | rfl | rfl | rfl
          · exact ⟨tv, htv, TyX.kp tyv (Kp.of s17)⟩
          · exact ⟨"dict", by decide, .base (.dK (s17 _ _ hf16.1))⟩
          · exact ⟨"tuple", by decide, ty_t (same_t s17 ht16)⟩
          · exact ⟨"str", by decide, .base (.str _)⟩
        clear f17
        refine ⟨L, rfl, ⟨_, SqL.of hL⟩, for_list (K := K) (a := L) (xs := xs) (fun j σ H' => ∃ o7 : Option V, σ = [some (.ref a), some (.ref d), some (.int (0 + i)), some (.ref f), some (.ref g), some (.ref a1), o6, o7] ∧ H' = H17) ⟨_, rfl, rfl⟩ ?_ ?_ ?_⟩
        · rintro j σ H' _ ⟨_, _, rfl⟩
          exact SqL.of hL
        · rintro j x σ H' hx ⟨o7, rfl, rfl⟩
          obtain ⟨t, ht, ty⟩ := hxs x (List.mem_of_getElem? hx)
          obtain ⟨da7, ta7, ha17, _⟩ := id hb17
          refine ⟨_, rfl, _, rfl, a1, da7, _, _, rfl, ha17, ty, nf_at (nf_Book T) ht, a1, _, _, rfl, hb17, g5.ok, .inr ⟨t, ht, ty, _, rfl, _, rfl, iteF ?_⟩⟩
          exact ⟨_, rfl, _, rfl, a1, da7, _, _, rfl, ha17, ty, nf_at (nf_Book T) ht, a1, _, _, rfl, hb17, g5.ok, .inr ⟨t, ht, ty, _, rfl, _, rfl, iteF ⟨_, rfl, rfl⟩⟩⟩
        · rintro σ H' ⟨o7, rfl, rfl⟩
          exact ⟨_, _, _, _, _, _, rfl, dr17⟩
    · rintro σ H2 ⟨o2, o3, o4, o5, o6, o7, rfl, dr2⟩
      refine ⟨He.ga K "BARS", _, rfl, .inr (c_BARS T H2), fun l3 q3 => ?_⟩
      generalize e3 : upd _ _ _ = H3; have s3 := new_s e3 q3; have f3 := new_f e3
      refine ⟨rfl, fun l4 q4 => ?_⟩
      generalize e4 : upd _ _ _ = H4; have s4 := new_s e4 q4; have f4 := new_f e4
      have hok : ∀ z ∈ bars6, PyData.strOk z = true := fun z hz => okS z (by simp only [List.mem_append]; exact .inr hz)
      refine ⟨.list (bars6.map PyData.str), .list (bars6.map PyData.str), .lst (SqL.of (s4 _ _ f3)) (dpa_strs bars6), .lst (SqL.of f4) (dpa_strs bars6), shaped_lstS hok, shaped_lstS hok, ?_⟩
      rw [PyData.eqv, eqvAll_strs, decide_eq_true rfl]
      refine ⟨true, rfl, iteT ⟨by show 2 ≤ sizeLine; decide, fun t5 q5 => ?_⟩⟩
      generalize e5 : upd _ _ _ = H5; have s5 := new_s e5 q5; have f5 := new_f e5
      refine ⟨_, .tuple [.tuple (bars6.map PyData.str), .tuple (ends4.map PyData.str)], rfl, .tup (.inl (.inl f5)) (.cons (.tup (c_BARS T H5) (dpa_strs bars6)) (.cons (.tup (c_FAULTS T H5) (dpa_strs ends4)) .nil)), by decide +kernel, by decide +kernel, by decide +kernel, by decide +kernel, ?_⟩
      refine ⟨rfl, fun l6 q6 => ?_⟩
      generalize e6 : upd _ _ _ = H6; have s6 := new_s e6 q6; have f6 := new_f e6
      refine ⟨l6, _, rfl, .inl ⟨SqL.of f6, fun t7 q7 => ?_⟩⟩
      generalize e7 : upd _ _ _ = H7; have s7 := new_s e7 q7; have f7 := new_f e7
      refine ⟨by decide, fun t8 q8 => ?_⟩
      generalize e8 : upd _ _ _ = H8; have s8 := new_s e8 q8; have f8 := new_f e8
      refine ⟨by show 2 ≤ sizeLine; decide, fun t9 q9 => ?_⟩
      generalize e9 : upd _ _ _ = H9; have s9 := new_s e9 q9; have f9 := new_f e9
      refine ⟨_, .tuple [.tuple (bars6.map PyData.str), .tuple (ends4.map PyData.str)], rfl, .tup (.inl (.inl f9)) (.cons (.tup (.inl (.inl (s9 _ _ (s8 _ _ f7)))) (dpa_strs bars6)) (.cons (.tup (.inl (.inl (s9 _ _ f8))) (dpa_strs ends4)) .nil)), by decide +kernel, by decide +kernel, by decide +kernel, by decide +kernel, rfl, ?_⟩
      rw [decide_eq_true rfl]
      exact k _
end

end HL

open PySem PySem.W PySem.Calls PyProof.Rows
theorem PySem.Challenge.cw_heldlives_k02_books_told_holds : PySem.Challenge.rw_heldlives_k02_books_told.Holds := by
  w_on; o_law
  refine HandSHeadRun.head_any (r := OpenLaw.row PySem.Challenge.rw_heldlives_k02_books_told) (q := view (OpenLaw.row PySem.Challenge.rw_heldlives_k02_books_told).prog [30]) (H := HL.hk) (ob := HL.ob) (M := 6000) (loose := HL.loose) (d := HandSHeadRun.topDef (OpenLaw.row PySem.Challenge.rw_heldlives_k02_books_told).prog 30) (kwd := []) HL.ob_eq
    (by kernel_rfl) (fun s => by kernel_rfl) HL.run (by kernel_rfl) (by kernel_rfl) (by kernel_rfl) (by rfl) (by first | assumption | decide +kernel) (by decide +kernel) ⟨rfl, rfl, rfl, rfl, rfl, by decide +kernel⟩ ?hw ?hc
  case hw => w_witness2
  case hc =>
    refine HL.walkG (l := PySem.Challenge.rw_heldlives_k02_books_told) (n := 63) (k := 9) (x := "_law_script") (cx := fun _ => L2.CX0) rfl (by decide) (by kernel_rfl) ⟨rfl, by decide, by decide⟩ ?F (fun _ _ _ _ _ z => z)
    intro w mg fa h Y G hmg0
    obtain ⟨K, KX, c⟩ := Y
    have hmg : mg ("law" : PySem.Str) = some (.ref fa) := by
      have e : (HandSHeadRun.topDef (OpenLaw.row PySem.Challenge.rw_heldlives_k02_books_told).prog 30).name = ("law" : PySem.Str) := by kernel_rfl
      rw [← e]
      exact hmg0
    have T : HL.Tx K mg := ⟨w, h, c, KX, G⟩
    obtain ⟨fd, F⟩ := HL.d_law T
    have ef := hmg.symm.trans (HL.g_law T)
    cases ef
    have b := L2.FunD.bindsA (ps := ["_law_script"]) F fun _ _ _ _ _ _ us hl => match us, hl with | [_], _ => rfl
    refine ⟨K, KX, fd, [], HL.spLaw K, (fun p hp => by cases hp), (fun p hp => by cases hp), (fun p hp => by cases hp), fun s u => b s [u] rfl, fun H a ns hl _ _ hS => ⟨a, ns, rfl, hS, hl, fun _ => rfl⟩, fun base _ _ _ => ?_⟩
    exact HL.fn_law (P := (PySem.Challenge.rw_heldlives_k02_books_told).prog) (w := w) (base := base) T F
