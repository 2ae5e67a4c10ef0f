import PyProof.Rows.All
import Wide.All
import OpenK.AllK
import Wide.FinOn
import KE.KStateDown
import HandS.ForMost
import HandS.More
import HandS.Exc
import HandS.Defaults
import HandS.Lambda
import HandS.EndBits
import HandS.EndTab
import PyProof.ReprRoads
import HandS.Evl
import HandS.IsInst
import HandS.TupAny
import HandS.Style
import HandS.OwnEq
import HandS.Property
import HandS.MakeKwOnly
import HandS.Head0
import HandS.Head1
import HandS.Head2
import HandS.HeadEnd
import HandS.HeadHook1
import HandS.HeadHook2
import HandS.HeadHook3
import HandS.HeadHook4
import HandS.HeadWalk
import PyProof.TupleOfSeq
import HandS.ExcInit
import HandS.ExcIs
import HandS.ExcField
import HandS.ExcValue
import HandS.TryOnly
import KE.KExcIs
import HandS.WordsExc
import HandS.Strs
import PyProof.ReprBulk
import PySem.Challenge.RW_heldlives_k01_errors_by_class
set_option Elab.async false
set_option linter.all false
set_option maxRecDepth 100000
set_option maxHeartbeats 4000000
namespace HL
open PySem PySem.Spec PyProof.Rows L2

/-! ### defs that are called where no repr is under way -/
structure FnG (P : Program) (w : World) (K : PySem.W.Frag) (mg : Str → Option Value) (base : Heap) (cx : CXT) (k : Nat) (f : Addr) (fd : FuncData) (ps : List Str) (sp : Sp) : Prop where
  glen : ∀ vs H Q E, sp vs H Q E → vs.length = ps.length
  grun : ∀ (A : Around) (outer : List Env) (s : Shared) (H : Hp) (args : Args) (us : List Value) (vs : List V) (Q : VK) (E : XK),
    A.guards = some [] → Room k A → Env0 P w K mg base A outer s H → BindsTo s fd args (ps.zip us) → Vals vs us → sp vs H Q E →
    codeAny (model P w) A (.call (.ref f) args) (CR cx outer P w H s Q E) s

section
variable {P : Program} {w : World} {K : PySem.W.Frag} {mg : Str → Option Value} {base : Heap} {cx : CXT} {k : Nat} {f : Addr} {fd : FuncData} {ps : List Str} {sp : Sp}
theorem FnG.of (F : FnOk P w K mg base cx k f fd ps sp) : FnG P w K mg base cx k f fd ps sp :=
  ⟨F.len, fun A outer s H args us vs Q E _ => F.run A outer s H args us vs Q E⟩
theorem FnG.up {j : Nat} (F : FnG P w K mg base cx j f fd ps sp) (h : j ≤ k) : FnG P w K mg base cx k f fd ps sp :=
  ⟨F.glen, fun A outer s H args us vs Q E g r => F.grun A outer s H args us vs Q E g (r.mono h)⟩
end

section
variable {X : Cx} {cx : CXT} {k : Nat} {f : Addr} {fd : FuncData} {ps : List Str} {sp : Sp} {dvs : List V} {ds : List Value} {E : XK} {x : Str} {p pos : Pos} {e : Expr} {es : List Expr} {t : TA}
/-- f(e, ..) -/
theorem pe_callg (F : FnG X.prog X.w X.K X.mg X.base cx k f fd ps sp) (gd : X.A.guards = some []) (hr : Room k X.A) (hg : Gl X x) (hm : X.mg x = some (.ref f))
    (hk : PySem.W.keepIn X.K (.ref f) = true) (hb : Binds X.K fd ps ds) (hd : Vals dvs ds) (hx : Passes cx X E) (ha : PA X (e :: es) t)
    (hdb : (x == ("__debug__" : Str)) = false := by decide) (he : starEach (e :: es) X.env = (false, eval e X.env) :: starEach es X.env := by rfl)
    (hpl : (backTo pos (starEach es X.env)).any (·.1) = false := by rfl) : PE X (.Call (.Name x p) (e :: es) [] pos) (tCall sp dvs E t) := by
  refine ⟨fun pins s σ H Q I h => wpAny_Call_Name_kw (ld_glob I hg hm ?_ hdb)⟩
  refine PySem.W.callWith_K (h₀ := X.base) I.ok.mod.kin hk ?_ he hpl
  refine thn (ha.run pos pins s σ H _ I h) fun us s1 hh => ?_
  obtain ⟨vs, H1, I1, r, q⟩ := hh
  have r2 : Vals (vs ++ dvs) (us ++ ds) := r.append hd
  have hl : (us ++ ds).length = ps.length := r2.length.symm.trans (F.glen _ _ _ _ q)
  refine ⟨I1.kIn, wpAny_call (codeAny_mono (F.grun X.A X.stack s1 H1 ⟨us, []⟩ _ _ Q E gd hr I1.env0 (hb s1 us I1.kIn hl) r2 q) fun res s2 hq => ?_)⟩
  match res, hq with
  | .error e', hq => exact hx pins σ H1 s1 e' s2 I1 hq
  | .ok (.ret u), hq => exact I1.after hq
end

section
variable {P : Program} {w : World} {K : PySem.W.Frag} {mg : Str → Option Value} {base : Heap}
/-- a def of the text as a datum: where it stands and what it is -/
abbrev FnP (K : PySem.W.Frag) (x q : Str) (st : Stmt) (dv : List V) (kw : List (Str × V)) (f : Addr) (fd : FuncData) : Prop :=
  FunD K x q (defArgs st) (defBody st) (defScope st) dv kw f fd
theorem okG {x q : Str} {st : Stmt} {dv : List V} {kw : List (Str × V)} {f : Addr} {fd : FuncData} {N ps : List Str} {k : Nat} {sp : Sp} (F : FnP K x q st dv kw f fd) (S : FnScope N ps (defScope st))
    (len : ∀ vs H Q E, sp vs H Q E → vs.length = ps.length)
    (hb : ∀ (cdv : Value) (A : Around) (outer : List Env) (s : Shared) (H : Hp) (vs : List V) (Q : VK) (E : XK), A.guards = some [] → Room k (A.deeper (envOfC q (defScope st) s.heap.objs.size f cdv)) → sp vs H Q E →
      ∃ t, PSs (cxOf CX0 P w K mg base N q (defScope st) f cdv A outer s H E).nox (defBody st) t ∧ t { nx := fun _ H' => Q .non H', rt := Q } (start N vs) H) :
    FnG P w K mg base CX0 (k + 1) f fd ps sp := by
  obtain ⟨⟨oc, od, dV, kV, doc, pm, an, cdv, ct, osl, rfl, lk, hcd, _⟩, _⟩ := F
  refine ⟨len, fun A outer s H args us vs Q E g hr e0 bt r h => ?_⟩
  refine LamX.run_ofS (N := N) lk hcd S hr e0 bt r (len _ _ _ _ h) fun hr' => ?_
  obtain ⟨t, h1, h2⟩ := hb cdv A outer s H vs Q E g hr' h
  exact ⟨t, h1.nox, h2⟩
end

/-! ### repr of data -/
def rRepr (K : PySem.W.Frag) : List V → Hp → VK → Prop := fun xs H Q => ∃ x d, xs = [x] ∧ Dp K H x d ∧ d.showable = true ∧ d.hasDict = false ∧ d.depth ≤ 60 ∧ d.shown.length ≤ sizeLine ∧ Q (.str d.shown) H
theorem call_repr {X : Cx} (gd : X.A.guards = some []) (hu : X.A.units + 64 < cLine) : CallR X (.builtin "repr") (rRepr X.K) := by
  intro pins s σ H xs us Q I r h
  obtain ⟨x, d, rfl, hd, hs, hn, hdp, hz, q⟩ := h
  cases r with
  | cons r0 rn =>
    cases rn
    cases hd with
    | non =>
      cases r0
      exact PySem.P.repr_of_none ⟨V.str "None", H, I.tok _, ⟨_, rfl⟩, q⟩
    | bl b =>
      cases r0
      exact PySem.P.repr_of_bool ⟨V.str (if b then "True" else "False"), H, I.tok _, ⟨_, rfl⟩, q⟩
    | int i =>
      obtain ⟨t, rfl⟩ := r0
      exact PySem.P.repr_of_int (by simpa [PyData.showable] using hs) ⟨V.str (toString i), H, I.tok _, ⟨_, rfl⟩, q⟩
    | str z =>
      obtain ⟨t, rfl⟩ := r0
      exact PySem.P.repr_of_str ⟨V.str (reprText z), H, I.tok _, ⟨_, rfl⟩, q⟩ hz
    | lst h1 h2 =>
      cases r0
      obtain ⟨as, rr⟩ := Dp.reads I _ _ _ (Dp.lst h1 h2) rfl
      exact repr_of_reads' (h₀ := s.heap) rr hs (fun z => by rw [hn] at z; cases z) gd (by omega) (fun _ _ e => e) (fun h' u tk hk => ⟨V.str (PyData.shown _), H, I.kept (t' := tk) hk, ⟨_, rfl⟩, q⟩) hz
    | tup h1 h2 =>
      cases r0
      obtain ⟨as, rr⟩ := Dp.reads I _ _ _ (Dp.tup h1 h2) rfl
      exact repr_of_reads' (h₀ := s.heap) rr hs (fun z => by rw [hn] at z; cases z) gd (by omega) (fun _ _ e => e) (fun h' u tk hk => ⟨V.str (PyData.shown _), H, I.kept (t' := tk) hk, ⟨_, rfl⟩, q⟩) hz
end HL

namespace HL
open PySem PySem.Spec PyProof.Rows L2
/-- the abstract heap at a law's entry: the tables, and the script where the module does not hold it -/
def entryHp (K : PySem.W.Frag) (ts : List Addr) (a : Addr) (o : Obj) (xs : List V) : Hp := fun b =>
  if b ∈ ts then some (.tbl #[]) else if b = a ∧ K.lookup a = none then some (.frz o (.lst xs)) else none
section
variable {K : PySem.W.Frag} {ts : List Addr} {a : Addr} {o : Obj} {xs : List V}
theorem entry_tab {b : Addr} (h : b ∈ ts) : entryHp K ts a o xs b = some (.tbl #[]) := if_pos h
theorem entry_cases (b : Addr) : (b ∈ ts ∧ entryHp K ts a o xs b = some (.tbl #[])) ∨ (b ∉ ts ∧ b = a ∧ K.lookup a = none ∧ entryHp K ts a o xs b = some (.frz o (.lst xs))) ∨ (b ∉ ts ∧ entryHp K ts a o xs b = none) := by
  by_cases h : b ∈ ts
  · exact .inl ⟨h, if_pos h⟩
  · by_cases h2 : b = a ∧ K.lookup a = none
    · exact .inr (.inl ⟨h, h2.1, h2.2, (if_neg h).trans (if_pos h2)⟩)
    · exact .inr (.inr ⟨h, (if_neg h).trans (if_neg h2)⟩)
end
theorem lawG {P : Program} {w : World} {K : PySem.W.Frag} {mg mb : Str → Option Value} {cx : CXT} {k : Nat} {fa a : Addr} {cs : List (Addr × Addr)} {fd : FuncData} {x : Str} {sp : Sp} {s : Shared} {us : List Value} {ns : List Int}
    (KX : K.In s.heap) (gl : s.heap.Ns mainGlobals mg) (bl : s.heap.Ns builtinsNs mb) (bb : ∀ x : Str, x ≠ "__name__" → mb x = bootBuiltins x) (lim : s.heap.NoLimit) (ge : s.gens = #[])
    (tE : ∀ p ∈ cs, s.heap.get? p.2 = some { cls := .none, data := .fields #[] }) (tN : ∀ p ∈ cs, K.lookup p.2 = none) (tC : ∀ p ∈ cs, PySem.W.CodeHd s.heap p.1 p.2)
    (bm : ∃ (m : Addr) (ob : Obj), mg "__builtins__" = some (.ref m) ∧ m ≠ builtinsNs ∧ s.heap.get? m = some ob ∧ ob.cls = .type "module" ∧ ob.dict = some builtinsNs ∧ ob.data = .plain)
    (ha : s.heap.get? a = some { cls := .type "list", data := .seq us.toArray }) (hi : IntsAre us ns) (hl : ns.length ≤ sizeLine) (hr : Room k callerA)
    (F : ∀ base : Heap, K.In base → base.Ns mainGlobals mg → (∀ p ∈ cs, LamX.TabB base mg p.1 p.2) → FnG P w K mg base cx k fa fd [x] sp) (hb : ∀ (s : Shared) (u : Value), BindsTo s fd ⟨[u], []⟩ [(x, u)])
    (hsp : ∀ H : Hp, (∀ p ∈ cs, H p.2 = some (.tbl #[])) → SqL K H a (ns.map V.int) → sp [.ref a] H (fun v _ => v = .bl true) fun _ _ _ => False)
    (hcx : ∀ H e s', cx [] H s (fun _ _ _ => False) e s' → False) :
    codeAny (model P w) callerA (.call (.ref fa) ⟨[.ref a], []⟩) (fun r s' => r = .ok (.ret (.bool true)) ∧ OldK s.heap s'.heap ∧ s'.os = s.os ∧ AllBare s'.gens) s := by
  have tabOf : ∀ b, b ∈ cs.map (·.2) → ∃ p ∈ cs, p.2 = b := fun b hb => by simpa using hb
  have tG : ∀ b, b ∈ cs.map (·.2) → s.heap.get? b = some { cls := .none, data := .fields #[] } := fun b hb => by
    obtain ⟨p, hp, rfl⟩ := tabOf b hb
    exact tE p hp
  have nA : a ∉ cs.map (·.2) := fun hb => by
    have q := (tG a hb).symm.trans ha
    have q2 := congrArg Obj.data (Option.some.inj q)
    cases q2
  generalize hH : entryHp K (cs.map (·.2)) a { cls := .type "list", data := .seq us.toArray } (ns.map V.int) = H
  have cas : ∀ b, (b ∈ cs.map (·.2) ∧ H b = some (.tbl #[])) ∨ (b ∉ cs.map (·.2) ∧ b = a ∧ K.lookup a = none ∧ H b = some (.frz { cls := .type "list", data := .seq us.toArray } (.lst (ns.map V.int)))) ∨ (b ∉ cs.map (·.2) ∧ H b = none) := fun b => by
    rw [← hH]
    exact entry_cases b
  have hT : ∀ p ∈ cs, H p.2 = some (.tbl #[]) := fun p hp => by
    rw [← hH]
    exact entry_tab (List.mem_map.mpr ⟨p, hp, rfl⟩)
  have rv := vals_ints hi
  have sq : SqL K H a (ns.map V.int) := by
    cases q : K.lookup a with
    | some o =>
      have e := (KX a o q).symm.trans ha
      have eo := Option.some.inj e
      subst eo
      exact .inr ⟨_, us.toArray, _, q, rfl, rfl, rfl, by simpa [hi.length] using hl, by simpa using rv⟩
    | none =>
      rcases cas a with ⟨z, _⟩ | ⟨_, _, _, z⟩ | ⟨_, z⟩
      · exact absurd z nA
      · exact .inl (.inr ⟨_, z⟩)
      · rw [← hH] at z
        have z2 := (show entryHp K (cs.map (·.2)) a { cls := .type "list", data := .seq us.toArray } (ns.map V.int) a = _ from (if_neg nA).trans (if_pos ⟨rfl, q⟩)).symm.trans z
        cases z2
  have hok : HOk P w H s.heap := fun b u e => by
    rcases cas b with ⟨h1, h2⟩ | ⟨_, h1, _, h2⟩ | ⟨_, h2⟩
    · have e1 := Option.some.inj (e.symm.trans h2)
      subst e1
      exact tG b h1
    · have e1 := Option.some.inj (e.symm.trans h2)
      subst e1 h1
      exact ⟨ha, by simpa using hl, us, _, rv, ha⟩
    · rw [h2] at e
      cases e
  -- what is no empty record and no list isn't tracked
  have off : ∀ {b : Addr} {o : Obj}, s.heap.get? b = some o → o.data ≠ .fields #[] → (∀ v n, o.data ≠ .seq v n) → H b = none := fun {b o} e n1 n2 => by
    rcases cas b with ⟨h1, _⟩ | ⟨_, h1, _, _⟩ | ⟨_, h2⟩
    · rw [tG b h1] at e
      cases e
      exact absurd rfl n1
    · rw [h1, ha] at e
      cases e
      exact absurd rfl (n2 _ _)
    · exact h2
  have nsB : ∀ {b : Addr} {m : Str → Option Value}, s.heap.Ns b m → (hidT s.heap H).Ns b m := fun {b m} ⟨o, es, ep, e, d, r⟩ =>
    ⟨o, es, ep, hidT_get e (off e (by rw [d]; intro z; cases z) (by rw [d]; intro v n z; cases z)), d, r⟩
  have kB : K.In (hidT s.heap H) := fun b o e => hidT_get (KX b o e) (by
    rcases cas b with ⟨h1, _⟩ | ⟨_, h1, h3, _⟩ | ⟨_, h2⟩
    · obtain ⟨p, hp, rfl⟩ := tabOf b h1
      rw [tN p hp] at e
      cases e
    · rw [h1, h3] at e
      cases e
    · exact h2)
  have tb : ∀ p ∈ cs, LamX.TabB (hidT s.heap H) mg p.1 p.2 := fun p hp => by
    refine ⟨?_, ?_, fun z => ?_⟩
    · obtain ⟨o, vs, fi, tf, fl, tg, inF, tx, tt, e1, r1, r2, r3, r⟩ := tC p hp
      refine ⟨o, vs, fi, tf, fl, tg, inF, tx, tt, hidT_get e1 (off e1 (fun z => ?_) fun v n z => ?_), r1, r2, r3, r⟩
      · rw [r2] at z
        cases z
        simp at r3
      · rw [r2] at z
        cases z
    · obtain ⟨m, ob, b1, b2, b3, b4, b5, b6⟩ := bm
      refine ⟨m, ob, b1, b2, fun q => ?_, fun q => ?_, hidT_get b3 (off b3 (by rw [b6]; intro z; cases z) (by rw [b6]; intro v n z; cases z)), b4, b5, b6⟩
      · obtain ⟨o, es, ep, e, hd, _⟩ := gl
        rw [q, e] at b3
        cases b3
        rw [hd] at b6
        cases b6
      · rw [q, tE p hp] at b3
        cases b3
        cases b6
    · obtain ⟨o, es, ep, e, hd, _⟩ := gl
      rw [z, tE p hp] at e
      cases e
      cases hd
  have md : L2.Mod K mg (hidT s.heap H) := ⟨kB, nsB gl, ⟨mb, nsB bl, bb⟩, by
    obtain ⟨mc, h1, h2⟩ := lim
    exact ⟨mc, nsB h1, h2⟩⟩
  have e0 : Env0 P w K mg (hidT s.heap H) callerA [] s H := ⟨rfl, md, fun b o e => of_hidT e, Nat.le_of_eq (hidT_size _ _), trivial, fun b z => absurd (show b ∈ ([] : List Addr) from z) (by simp), hok, .of_eq ge⟩
  refine codeAny_mono ((F _ kB (nsB gl) tb).grun callerA [] s H ⟨[.ref a], []⟩ [.ref a] [.ref a] _ _ rfl hr e0 (hb s (.ref a)) (.cons rfl .nil) (hsp H hT sq)) fun r s' h => ?_
  match r, h with
  | .error e, h => exact (hcx H e s' h).elim
  | .ok (.ret u), h =>
    obtain ⟨v, H', os, bare, un, hok', rr, q⟩ := h
    have q1 : v = .bl true := q
    subst q1
    cases rr
    have stays : ∀ b o, b ∉ cs.map (·.2) → s.heap.get? b = some o → s'.heap.get? b = some o := fun b o nb e => by
      rcases cas b with ⟨h1, _⟩ | ⟨_, h1, _, h2⟩ | ⟨_, h2⟩
      · exact absurd h1 nb
      · obtain ⟨e1, _⟩ := hok b _ h2
        obtain ⟨e2, _⟩ := hok' b _ (un.frzs b _ _ h2)
        rw [e] at e1
        cases e1
        exact e2
      · exact un.keep b o e h2 (fun z => absurd (show b ∈ ([] : List Addr) from z) (by simp)) (by simp)
    refine ⟨rfl, ⟨fun b o e => ?_, fun b o e => ?_⟩, os, bare⟩
    all_goals
      by_cases hb : b ∈ cs.map (·.2)
      · obtain ⟨p, hp, rfl⟩ := tabOf b hb
        obtain ⟨more, z⟩ := un.tbls p.2 #[] (hT p hp)
        have hm : s'.heap.get? p.2 = some { cls := .none, data := .fields (#[] ++ more) } := hok' p.2 _ z
        first
          | (rw [tE p hp] at e
             cases e
             exact .inr (.inl ⟨((tC p hp).tab (tE p hp)).isCodeTable, rfl, #[], more, rfl, hm⟩))
          | exact ⟨_, hm⟩
      · first
          | exact .inl (stays b o hb e)
          | exact ⟨o, stays b o hb e⟩
/-- what is to be said of a law at a world -/
def LawAtG (l : PySem.W.OpenLaw) (w : World) (K : PySem.W.Frag) (cx : CXT) (k n : Nat) (x : Str) (mg : Str → Option Value) (fa : Addr) (h : Heap) : Prop :=
  ∃ (fd : FuncData) (cs : List (Addr × Addr)) (sp : Sp), (∀ p ∈ cs, h.get? p.2 = some { cls := .none, data := .fields #[] }) ∧ (∀ p ∈ cs, K.lookup p.2 = none) ∧ (∀ p ∈ cs, PySem.W.CodeHd h p.1 p.2) ∧
    (∀ (s : Shared) (u : Value), BindsTo s fd ⟨[u], []⟩ [(x, u)]) ∧
    (∀ (H : Hp) (a : Addr) (ns : List Int), ns.length ≤ n → (∀ z ∈ ns, Builtin.Int.intBits z ≤ 1048576) → (∀ p ∈ cs, H p.2 = some (.tbl #[])) → SqL K H a (ns.map V.int) → sp [.ref a] H (fun v _ => v = .bl true) fun _ _ _ => False) ∧
    ∀ base : Heap, K.In base → base.Ns mainGlobals mg → (∀ p ∈ cs, LamX.TabB base mg p.1 p.2) → FnG l.prog w K mg base cx k fa fd [x] sp
theorem walkG {l : PySem.W.OpenLaw} {n k : Nat} {q : Program} {loose : List Str} {XP : (Str → Option Value) → Heap → Prop} {YP : World → Heap → Prop} {d : DefRec} {cx : World → CXT} {x : Str}
    (hn : l.most = some n) (hn2 : n ≤ sizeLine) (hdf : d.params.defaults = []) (hr : Room k callerA)
    (F : ∀ (w : World) (mg : Str → Option Value) (fa : Addr) (h : Heap), YP w h → h.Ns mainGlobals mg → mg d.name = some (.ref fa) → ∃ K : PySem.W.Frag, K.In h ∧ LawAtG l w K (cx w) k n x mg fa h)
    (hcx : ∀ (w : World) (H : Hp) (s : Shared) (e : Value) (s' : Shared), cx w [] H s (fun _ _ _ => False) e s' → False) :
    PySem.W.WalkO q loose XP YP l.row.toRowW d [] (fun f vs => PySem.call f vs) :=
  Att.attach_callB hn hdf fun w s0 s1 mg mb fa o pm cd doc a vs ns G Y ho hd hcd hmg hobj hints hlen hbits hg => by
    obtain ⟨K, KX, fd, cs, sp, h1, h2, h3, h4, h5, h6⟩ := F w mg fa _ Y G.T.g hmg
    exact lawG KX G.T.g G.T.b G.T.builtins G.T.nolimit hg h1 h2 h3 G.T.bmain hobj hints (Nat.le_trans hlen hn2) hr h6 h4 (fun H q1 q2 => h5 H a ns hlen hbits q1 q2) fun H e s' => hcx w H s1 e s'
end HL

namespace HL
open PySem PySem.Spec PyProof.Rows L2
/-! ### things whose content is left open -/
def noHp : Hp := fun _ => none
/-- at a stands something of the kind S, whatever it is -/
def some_ (P : Program) (w : World) (S : HO → Prop) (a : Addr) : HO := .ext fun h => ∃ o, S o ∧ ObjOk P w noHp h a o
/-- a kind of lists and dicts -/
def Flat (S : HO → Prop) : Prop := ∀ o, S o → (∃ xs, o = .lst xs) ∨ ∃ kvs, o = .dK kvs
theorem flat_any {P : Program} {w : World} {S : HO → Prop} (fl : Flat S) {o : HO} (h : S o) {H H' : Hp} {hp : Heap} {a : Addr} (x : ObjOk P w H hp a o) : ObjOk P w H' hp a o := by
  rcases fl o h with ⟨xs, rfl⟩ | ⟨kvs, rfl⟩
  · exact x
  · exact x
theorem some_ok {P : Program} {w : World} {S : HO → Prop} (fl : Flat S) {o : HO} (h : S o) {H H' : Hp} {hp : Heap} {a : Addr} (x : ObjOk P w H hp a o) : ObjOk P w H' hp a (some_ P w S a) := by
  have lt := x.lt
  refine ⟨⟨o, h, flat_any fl h x⟩, ?_, fun h1 h2 hh k => ?_⟩
  · rcases fl o h with ⟨xs, rfl⟩ | ⟨kvs, rfl⟩
    · obtain ⟨_, its, n, _, e⟩ := x
      exact ⟨_, e⟩
    · obtain ⟨_, _, vs, _, ob, es, ep, e, _⟩ := x
      exact ⟨_, e⟩
  · obtain ⟨o', s', y⟩ := hh
    refine ⟨o', s', y.stay (fun b u hb e => ?_) (fun _ z => z) fun _ _ z => z⟩
    rcases hb with rfl | z
    · exact k u e
    · exact nomatch (show (none : Option HO) = _ from z)
section
variable {P : Program} {w : World} {fs ex : List Addr} {S : HO → Prop} {H H' : Hp} {h h' : Heap} {a : Addr} {o o' : HO}
/-- the heap with something known at a, and back -/
theorem hok_swap (ok : HOk P w H h) (ha : H a = some o) (h1 : ∀ c, o ≠ .own c) (h2 : ∀ xs, o ≠ .tup xs) (n : ObjOk P w (upd H a o') h a o') : HOk P w (upd H a o') h := fun b u e => by
  by_cases hb : b = a
  · subst hb
    rw [upd_same] at e
    cases e
    exact n
  · rw [upd_ne hb] at e
    refine (ok b u e).stay (fun _ _ _ q => q) (fun c q => ?_) fun c xs q => ?_
    · rw [upd_ne fun z => by rw [z, ha] at q; exact h1 _ (Option.some.inj q)]
      exact q
    · rw [upd_ne fun z => by rw [z, ha] at q; exact h2 _ (Option.some.inj q)]
      exact q
theorem un_left (u : Un fs ex (upd H a o) H' h h') (ha : H a = some o') (h1 : ∀ xs, o' ≠ .tup xs) (h2 : ∀ z y, o' ≠ .frz z y) (h3 : ∀ z, o' ≠ .tbl z) : Un fs ex H H' h h' := by
  have ne : ∀ b, H b = none → b ≠ a := fun b e z => by
    rw [z, ha] at e
    cases e
  refine ⟨fun b x q n => u.keep b x q (by rw [upd_ne (ne b n)]; exact n), fun b x q n => u.slot b x q (by rw [upd_ne (ne b n)]; exact n), fun b x q n => u.free b x q (by rw [upd_ne (ne b n)]; exact n), u.there, fun b xs q => u.tups b xs ?_, fun b z y q => u.frzs b z y ?_, fun b z q => u.tbls b z ?_⟩
  · rw [upd_ne fun z => by rw [z, ha] at q; exact h1 _ (Option.some.inj q)]
    exact q
  · rw [upd_ne fun z => by rw [z, ha] at q; exact h2 _ _ (Option.some.inj q)]
    exact q
  · rw [upd_ne fun z => by rw [z, ha] at q; exact h3 _ (Option.some.inj q)]
    exact q
theorem un_right (u : Un fs ex H H' h h') (ha : H' a = some o') (h1 : ∀ xs, o' ≠ .tup xs) (h2 : ∀ z y, o' ≠ .frz z y) (h3 : ∀ z, o' ≠ .tbl z) : Un fs ex H (upd H' a o) h h' := by
  refine ⟨u.keep, u.slot, fun b x q n hx => ?_, u.there, fun b xs q => ?_, fun b z y q => ?_, fun b z q => ?_⟩
  · have e := u.free b x q n hx
    rw [upd_ne fun z => by rw [z, ha] at e; cases e]
    exact e
  · have e := u.tups b xs q
    rw [upd_ne fun z => by rw [z, ha] at e; exact h1 _ (Option.some.inj e)]
    exact e
  · have e := u.frzs b z y q
    rw [upd_ne fun z => by rw [z, ha] at e; exact h2 _ _ (Option.some.inj e)]
    exact e
  · obtain ⟨m, e⟩ := u.tbls b z q
    exact ⟨m, by rw [upd_ne fun z => by rw [z, ha] at e; exact h3 _ (Option.some.inj e)]; exact e⟩
end
/-- a promise over what is known at a, as one over something of the kind S there, of the kind S' behind it -/
def spO (P : Program) (w : World) (n : Nat) (sp : Sp) : Sp := fun vs H Q E => vs.length = n ∧ ∃ (a : Addr) (S S' : HO → Prop), Flat S ∧ Flat S' ∧ H a = some (some_ P w S a) ∧
  ∀ o, S o → sp vs (upd H a o) (fun v H' => ∃ o', S' o' ∧ H' a = some o' ∧ Q v (upd H' a (some_ P w S' a))) E
theorem fn_open {P : Program} {w : World} {K : PySem.W.Frag} {mg : Str → Option Value} {base : Heap} {k : Nat} {f : Addr} {fd : FuncData} {ps : List Str} {sp : Sp} (F : FnOk P w K mg base CX0 k f fd ps sp) : FnOk P w K mg base CX0 k f fd ps (spO P w ps.length sp) := by
  refine ⟨fun vs H Q E h => h.1, fun A outer s H args us vs Q E hr e0 bt r hs => ?_⟩
  obtain ⟨_, a, S, S', fl, fl', ha, hp⟩ := hs
  obtain ⟨⟨o, so, ox⟩, _, _⟩ := e0.hok a _ ha
  have ne : ∀ b, H b = none → b ≠ a := fun b e z => by
    rw [z, ha] at e
    cases e
  have keep : ∀ b, H b = none → upd H a o b = none := fun b e => by
    rw [upd_ne (ne b e)]
    exact e
  have e1 : Env0 P w K mg base A outer s (upd H a o) := ⟨e0.frames, e0.mod, fun b ob e => ⟨(e0.bs b ob e).1, keep b (e0.bs b ob e).2⟩, e0.bsz, e0.funs, fun b hb => keep b (e0.frf b hb),
    hok_swap e0.hok ha (by intro c z; cases z) (by intro c z; cases z) (flat_any fl so ox), e0.bare⟩
  refine codeAny_mono (F.run A outer s (upd H a o) args us vs _ E hr e1 bt r (hp o so)) fun res s' q => ?_
  match res, q with
  | .error e, q => exact q
  | .ok (.ret u), q =>
    obtain ⟨v, H', os, ba, un, hok, rv, o', so', ha', q'⟩ := q
    have n1 : (∀ xs, o' ≠ .tup xs) ∧ (∀ z y, o' ≠ .frz z y) ∧ (∀ z, o' ≠ .tbl z) ∧ (∀ c, o' ≠ .own c) := by
      rcases fl' o' so' with ⟨xs, rfl⟩ | ⟨xs, rfl⟩
      all_goals exact ⟨(fun _ z => by cases z), (fun _ _ z => by cases z), (fun _ z => by cases z), (fun _ z => by cases z)⟩
    refine ⟨v, _, os, ba, ?_, hok_swap hok ha' n1.2.2.2 n1.1 (some_ok fl' so' (hok a _ ha')), rv, q'⟩
    exact un_right (un_left un ha (fun _ z => by cases z) (fun _ _ z => by cases z) (fun _ z => by cases z)) ha' n1.1 n1.2.1 n1.2.2.1
/-- what a def has made may be known as something of a kind from then on -/
theorem fn_close {P : Program} {w : World} {K : PySem.W.Frag} {mg : Str → Option Value} {base : Heap} {k : Nat} {f : Addr} {fd : FuncData} {ps : List Str} {sp sp' : Sp} (F : FnOk P w K mg base CX0 k f fd ps sp)
    (h : ∀ vs H Q E, sp' vs H Q E → sp vs H (fun v H' => ∃ (a : Addr) (S : HO → Prop) (o : HO), Flat S ∧ S o ∧ H' a = some o ∧ Q v (upd H' a (some_ P w S a))) E) : FnOk P w K mg base CX0 k f fd ps sp' := by
  refine ⟨fun vs H Q E q => F.len _ _ _ _ (h vs H Q E q), fun A outer s H args us vs Q E hr e0 bt r hs => ?_⟩
  refine codeAny_mono (F.run A outer s H args us vs _ E hr e0 bt r (h vs H Q E hs)) fun res s' q => ?_
  match res, q with
  | .error e, q => exact q
  | .ok (.ret u), q =>
    obtain ⟨v, H', os, ba, un, hok, rv, a, S, o', fl, so', ha', q'⟩ := q
    have n1 : (∀ xs, o' ≠ .tup xs) ∧ (∀ z y, o' ≠ .frz z y) ∧ (∀ z, o' ≠ .tbl z) ∧ (∀ c, o' ≠ .own c) := by
      rcases fl o' so' with ⟨xs, rfl⟩ | ⟨xs, rfl⟩
      all_goals exact ⟨(fun _ z => by cases z), (fun _ _ z => by cases z), (fun _ z => by cases z), (fun _ z => by cases z)⟩
    exact ⟨v, _, os, ba, un_right un ha' n1.1 n1.2.1 n1.2.2.1, hok_swap hok ha' n1.2.2.2 n1.1 (some_ok fl so' (hok a _ ha')), rv, q'⟩
end HL

namespace HL
open PySem PySem.Spec PyProof.Rows L2
/-! ### a global def by its name and promise -/
def Has (P : Program) (w : World) (K : PySem.W.Frag) (mg : Str → Option Value) (base : Heap) (x : Str) (k : Nat) (ps : List Str) (sp : Sp) : Prop :=
  ∃ f fd, mg x = some (.ref f) ∧ PySem.W.keepIn K (.ref f) = true ∧ FnOk P w K mg base CX0 k f fd ps sp ∧ Binds K fd ps []
def HasG (P : Program) (w : World) (K : PySem.W.Frag) (mg : Str → Option Value) (base : Heap) (x : Str) (k : Nat) (ps : List Str) (sp : Sp) : Prop :=
  ∃ f fd, mg x = some (.ref f) ∧ PySem.W.keepIn K (.ref f) = true ∧ FnG P w K mg base CX0 k f fd ps sp ∧ Binds K fd ps []
section
variable {P : Program} {w : World} {K : PySem.W.Frag} {mg : Str → Option Value} {base : Heap} {x : Str} {k : Nat} {ps : List Str} {sp : Sp}
theorem Has.g (h : Has P w K mg base x k ps sp) : HasG P w K mg base x k ps sp := by
  obtain ⟨f, fd, h1, h2, h3, h4⟩ := h
  exact ⟨f, fd, h1, h2, FnG.of h3, h4⟩
theorem Has.imp {sp' : Sp} (h : Has P w K mg base x k ps sp) (i : ∀ vs H Q E, sp' vs H Q E → sp vs H Q E) : Has P w K mg base x k ps sp' := by
  obtain ⟨f, fd, h1, h2, h3, h4⟩ := h
  exact ⟨f, fd, h1, h2, h3.imp i, h4⟩
theorem Has.open (h : Has P w K mg base x k ps sp) : Has P w K mg base x k ps (spO P w ps.length sp) := by
  obtain ⟨f, fd, h1, h2, h3, h4⟩ := h
  exact ⟨f, fd, h1, h2, fn_open h3, h4⟩
theorem Has.close {sp' : Sp} (h : Has P w K mg base x k ps sp) (i : ∀ vs H Q E, sp' vs H Q E → sp vs H (fun v H' => ∃ (a : Addr) (S : HO → Prop) (o : HO), Flat S ∧ S o ∧ H' a = some o ∧ Q v (upd H' a (some_ P w S a))) E) :
    Has P w K mg base x k ps sp' := by
  obtain ⟨f, fd, h1, h2, h3, h4⟩ := h
  exact ⟨f, fd, h1, h2, fn_close h3 i, h4⟩
theorem has_of {f : Addr} {st : Stmt} {N : List Str} (g : mg x = some (.ref f)) (F : ∃ fd, FunD K x x (defArgs st) (defBody st) (defScope st) [] [] f fd) (S : FnScope N ps (defScope st))
    (hb : ∀ (kV doc pm : Value) (an : Option Addr) (cdv ct : Value) (us : List Value), us.length = ps.length → bindArgs (PySem.W.fnOf x x (defArgs st) (defBody st) (defScope st) .none kV doc pm an cdv ct) ⟨us, []⟩ = pure (ps.zip us))
    (len : ∀ vs H Q E, sp vs H Q E → vs.length = ps.length)
    (body : ∀ (cdv : Value) (A : Around) (outer : List Env) (s : Shared) (H : Hp) (vs : List V) (Q : VK) (E : XK), Room k (A.deeper (envOfC x (defScope st) s.heap.objs.size f cdv)) → sp vs H Q E →
      ∃ t, PSs (cxOf CX0 P w K mg base N x (defScope st) f cdv A outer s H E).nox (defBody st) t ∧ t { nx := fun _ H' => Q .non H', rt := Q } (start N vs) H) :
    Has P w K mg base x (k + 1) ps sp := by
  obtain ⟨fd, F⟩ := F
  refine ⟨f, fd, g, F.kp, F.ok S len fun cdv A outer s H vs Q E hr h => ?_, F.bindsN hb⟩
  obtain ⟨t, h1, h2⟩ := body cdv A outer s H vs Q E hr h
  exact ⟨t, h1.nox, h2⟩
theorem hasg_of {f : Addr} {st : Stmt} {N : List Str} (g : mg x = some (.ref f)) (F : ∃ fd, FunD K x x (defArgs st) (defBody st) (defScope st) [] [] f fd) (S : FnScope N ps (defScope st))
    (hb : ∀ (kV doc pm : Value) (an : Option Addr) (cdv ct : Value) (us : List Value), us.length = ps.length → bindArgs (PySem.W.fnOf x x (defArgs st) (defBody st) (defScope st) .none kV doc pm an cdv ct) ⟨us, []⟩ = pure (ps.zip us))
    (len : ∀ vs H Q E, sp vs H Q E → vs.length = ps.length)
    (body : ∀ (cdv : Value) (A : Around) (outer : List Env) (s : Shared) (H : Hp) (vs : List V) (Q : VK) (E : XK), A.guards = some [] → Room k (A.deeper (envOfC x (defScope st) s.heap.objs.size f cdv)) → sp vs H Q E →
      ∃ t, PSs (cxOf CX0 P w K mg base N x (defScope st) f cdv A outer s H E).nox (defBody st) t ∧ t { nx := fun _ H' => Q .non H', rt := Q } (start N vs) H) :
    HasG P w K mg base x (k + 1) ps sp := by
  obtain ⟨fd, F⟩ := F
  exact ⟨f, fd, g, F.kp, okG F S len body, F.bindsN hb⟩
end
section
variable {X : Cx} {k j : Nat} {ps : List Str} {sp : Sp} {x : Str} {p pos : Pos} {e : Expr} {es : List Expr} {t : TA}
theorem pe_has (h : Has X.prog X.w X.K X.mg X.base x k ps sp) (hr : Room k X.A) (hg : Gl X x) (ha : PA X (e :: es) t) (hdb : (x == ("__debug__" : Str)) = false := by decide)
    (he : starEach (e :: es) X.env = (false, eval e X.env) :: starEach es X.env := by rfl) (hpl : (backTo pos (starEach es X.env)).any (·.1) = false := by rfl) :
    PE X (.Call (.Name x p) (e :: es) [] pos) (tCall sp [] E0 t) := by
  obtain ⟨f, fd, h1, h2, h3, h4⟩ := h
  exact pe_call h3 hr hg h1 h2 h4 .nil pass0 ha hdb he hpl
theorem pe_has0 (h : Has X.prog X.w X.K X.mg X.base x k ps sp) (hr : Room k X.A) (hg : Gl X x) (hdb : (x == ("__debug__" : Str)) = false := by decide) : PE X (.Call (.Name x p) [] [] pos) (tCall sp [] E0 tNil) := by
  obtain ⟨f, fd, h1, h2, h3, h4⟩ := h
  exact pe_call0 h3 hr hg h1 h2 h4 .nil pass0 hdb
theorem pe_hasg (gd : X.A.guards = some []) (h : HasG X.prog X.w X.K X.mg X.base x k ps sp) (hr : Room k X.A) (hg : Gl X x) (ha : PA X (e :: es) t) (hdb : (x == ("__debug__" : Str)) = false := by decide)
    (he : starEach (e :: es) X.env = (false, eval e X.env) :: starEach es X.env := by rfl) (hpl : (backTo pos (starEach es X.env)).any (·.1) = false := by rfl) :
    PE X (.Call (.Name x p) (e :: es) [] pos) (tCall sp [] E0 t) := by
  obtain ⟨f, fd, h1, h2, h3, h4⟩ := h
  exact pe_callg h3 gd hr hg h1 h2 h4 .nil pass0 ha hdb he hpl
/-- a module's int or text -/
theorem pe_gk {v : V} (hg : Gl X x) (h : ∃ u, X.mg x = some u ∧ RelV v u) (hd : (x == ("__debug__" : Str)) = false := by decide) : PE X (.Name x pos) (tC v) := by
  obtain ⟨u, h1, h2⟩ := h
  exact pe_glob hg h1 h2 hd
end
theorem boot_repr : bootBuiltins "repr" = some (.builtin "repr") := by decide +kernel
theorem boot_all : bootBuiltins "all" = some (.builtin "all") := by decide +kernel
theorem boot_any : bootBuiltins "any" = some (.builtin "any") := by decide +kernel
theorem boot_isinstance : bootBuiltins "isinstance" = some (.builtin "isinstance") := by decide +kernel
theorem boot_abs : bootBuiltins "abs" = some (.builtin "abs") := by decide +kernel
theorem boot_min : bootBuiltins "min" = some (.builtin "min") := by decide +kernel
theorem boot_max : bootBuiltins "max" = some (.builtin "max") := by decide +kernel
theorem boot_sorted : bootBuiltins "sorted" = some (.builtin "sorted") := by decide +kernel
theorem boot_len : bootBuiltins "len" = some (.builtin "len") := by decide +kernel
theorem boot_int : bootBuiltins "int" = some (.type "int") := by decide +kernel
theorem boot_list : bootBuiltins "list" = some (.type "list") := by decide +kernel
theorem boot_tuple : bootBuiltins "tuple" = some (.type "tuple") := by decide +kernel
theorem boot_dict : bootBuiltins "dict" = some (.type "dict") := by decide +kernel
theorem boot_str : bootBuiltins "str" = some (.type "str") := by decide +kernel
theorem boot_bool : bootBuiltins "bool" = some (.type "bool") := by decide +kernel
theorem boot_set : bootBuiltins "set" = some (.type "set") := by decide +kernel
/-! ### all that was known is known -/
theorem same_upd {H H' : Hp} {p : Addr} {o : HO} (e : Same H H') (h : H p = none) : Same H (upd H' p o) := fun b u q => by
  rw [upd_ne (ne_of_none q h)]
  exact e b u q
theorem same_new {H : Hp} {p : Addr} {o : HO} (h : H p = none) : Same H (upd H p o) := same_upd (Same.refl H) h
end HL

namespace HL
open PySem PySem.Spec PyProof.Rows L2
/-! ### a list against the empty list -/
def rNil (K : PySem.W.Frag) (neg : Bool) : R2 := fun x y H Q => ∃ p q xs, x = .ref p ∧ y = .ref q ∧ SqL K H p xs ∧ SqL K H q [] ∧ Q (.bl (if neg then !xs.isEmpty else xs.isEmpty)) H
section
variable {X : Cx}
theorem op_eqNil (hu : X.A.units + 64 < cLine) : OpR X (compareOp .Eq) (rNil X.K false) := by
  intro pins s σ H x y v u Q I rx ry h
  obtain ⟨p, q, xs, rfl, rfl, h1, h2, k⟩ := h
  cases rx
  cases ry
  obtain ⟨a, ra, ⟨oa, na, ea, ca, _, da⟩, _⟩ := I.list h1
  obtain ⟨b, rb, ⟨ob, nb, eb, cb, _, db⟩, _⟩ := I.list h2
  cases rb
  have la : s.heap.IsList p a.toArray := ⟨oa, ea, ca, na, da⟩
  have lb : s.heap.IsList q (#[] : Array Value) := ⟨ob, eb, cb, nb, db⟩
  cases ra with
  | nil => exact SeqAt.eq_listAt (e := fun _ => true) la lb rfl (by omega) (fun j h1 h2 => absurd h1 (by simp)) ⟨.bl true, H, I, rfl, k⟩
  | cons r0 rn => exact SeqAt.eq_list_lengthsAt la lb (by simp) (by omega) ⟨.bl false, H, I, rfl, k⟩
theorem op_neNil (hu : X.A.units + 64 < cLine) : OpR X (compareOp .NotEq) (rNil X.K true) := by
  intro pins s σ H x y v u Q I rx ry h
  obtain ⟨p, q, xs, rfl, rfl, h1, h2, k⟩ := h
  cases rx
  cases ry
  obtain ⟨a, ra, ⟨oa, na, ea, ca, _, da⟩, _⟩ := I.list h1
  obtain ⟨b, rb, ⟨ob, nb, eb, cb, _, db⟩, _⟩ := I.list h2
  cases rb
  have la : s.heap.IsList p a.toArray := ⟨oa, ea, ca, na, da⟩
  have lb : s.heap.IsList q (#[] : Array Value) := ⟨ob, eb, cb, nb, db⟩
  cases ra with
  | nil => exact SeqAt.RcNeAt.lists (e := fun _ => true) la lb rfl (by omega) (fun j h1 h2 => absurd h1 (by simp)) _ _ _ _ ⟨.bl false, H, I, rfl, k⟩
  | cons r0 rn => exact SeqAt.RcNeAt.lists_lengths la lb (by simp) (by omega) _ _ _ _ ⟨.bl true, H, I, rfl, k⟩
end
theorem sIx_nat {i n : Nat} (h : i < n) : seqIndex? (i : Int) n = some i := by
  unfold seqIndex?
  simp only [show ¬ ((i : Int) < 0) by omega, if_false]
  rw [if_pos (by simp; omega)]
  simp
theorem yes_ {σ : L2.St} {H : Hp} {A B : Hp → Prop} (h : A H) : tYes σ H (fun b H3 => if b = true then A H3 else B H3) := by
  show if true = true then A H else B H
  rw [if_pos rfl]
  exact h
/-! ### data stays data -/
theorem same_t {K : PySem.W.Frag} {H H' : Hp} {a : Addr} {xs : List V} (e : Same H H') (h : SqT K H a xs) : SqT K H' a xs := by
  rcases h with (h | ⟨o, h⟩) | h
  · exact .inl (.inl (e _ _ h))
  · exact .inl (.inr ⟨o, e _ _ h⟩)
  · exact .inr h
/-- all but what is left open stays -/
def Kp (H H' : Hp) : Prop := ∀ b o, (∀ φ, o ≠ HO.ext φ) → H b = some o → H' b = some o
theorem Kp.of {H H' : Hp} (e : Same H H') : Kp H H' := fun b o _ h => e b o h
theorem Kp.refl (H : Hp) : Kp H H := fun _ _ _ h => h
theorem Kp.trans {H H1 H2 : Hp} (a : Kp H H1) (b : Kp H1 H2) : Kp H H2 := fun c o n e => b c o n (a c o n e)
theorem Kp.lst {H H' : Hp} {a : Addr} {xs : List V} (e : Kp H H') (h : H a = some (.lst xs)) : H' a = some (.lst xs) := e _ _ (fun _ z => by cases z) h
theorem Kp.tup {H H' : Hp} {a : Addr} {xs : List V} (e : Kp H H') (h : H a = some (.tup xs)) : H' a = some (.tup xs) := e _ _ (fun _ z => by cases z) h
theorem Kp.dK {H H' : Hp} {a : Addr} {xs : List (Key × V)} (e : Kp H H') (h : H a = some (.dK xs)) : H' a = some (.dK xs) := e _ _ (fun _ z => by cases z) h
theorem Kp.ins {H H' : Hp} {a C dx : Addr} {fs : List (Str × V)} (e : Kp H H') (h : H a = some (.ins C dx fs)) : H' a = some (.ins C dx fs) := e _ _ (fun _ z => by cases z) h
theorem Kp.frz {H H' : Hp} {a : Addr} {o : Obj} {u : HO} (e : Kp H H') (h : H a = some (.frz o u)) : H' a = some (.frz o u) := e _ _ (fun _ z => by cases z) h
theorem Kp.l {K : PySem.W.Frag} {H H' : Hp} {a : Addr} {xs : List V} (e : Kp H H') (h : SqL K H a xs) : SqL K H' a xs := by
  rcases h with (h | ⟨o, h⟩) | h
  · exact .inl (.inl (e.lst h))
  · exact .inl (.inr ⟨o, e.frz h⟩)
  · exact .inr h
theorem Kp.t {K : PySem.W.Frag} {H H' : Hp} {a : Addr} {xs : List V} (e : Kp H H') (h : SqT K H a xs) : SqT K H' a xs := by
  rcases h with (h | ⟨o, h⟩) | h
  · exact .inl (.inl (e.tup h))
  · exact .inl (.inr ⟨o, e.frz h⟩)
  · exact .inr h
mutual
theorem Kp.dp {K : PySem.W.Frag} {H H' : Hp} (e : Kp H H') : ∀ {v : V} {d : PyData}, Dp K H v d → Dp K H' v d
  | _, _, .non => .non
  | _, _, .bl b => .bl b
  | _, _, .int i => .int i
  | _, _, .str x => .str x
  | _, _, .lst h a => .lst (e.l h) (Kp.dpa e a)
  | _, _, .tup h a => .tup (e.t h) (Kp.dpa e a)
theorem Kp.dpa {K : PySem.W.Frag} {H H' : Hp} (e : Kp H H') : ∀ {vs : List V} {ds : List PyData}, DpAll K H vs ds → DpAll K H' vs ds
  | _, _, .nil => .nil
  | _, _, .cons h t => .cons (Kp.dp e h) (Kp.dpa e t)
end
theorem dpa_strs {K : PySem.W.Frag} {H : Hp} : ∀ l : List Str, DpAll K H (l.map V.str) (l.map PyData.str)
  | [] => .nil
  | x :: r => .cons (.str x) (dpa_strs r)
theorem dpa_ints {K : PySem.W.Frag} {H : Hp} : ∀ l : List Int, DpAll K H (l.map V.int) (l.map PyData.int)
  | [] => .nil
  | x :: r => .cons (.int x) (dpa_ints r)
end HL

namespace HL
open PySem PySem.Spec PyProof.Rows L2
section
variable {prog : Program} {w : World} {A : Around} {E : Value → Shared → Prop} {s : Shared} {K : PySem.W.Frag} {x C f : Addr} {ox : Obj} {od : Option Obj} {b tb : Value}
open PySem.W in
theorem ifBound_B {M : Model} {args : List Value} {name : Str} {id : String} {Q : Option Value → Shared → Prop} (X : K.In s.heap) (I : InstAt s.heap x ox C od) (hs : findIn K (.ref C) name = some (some (.builtin id)))
    (hb : ∀ self, bindSpecial (.builtin id) self = pure (.builtin id, [self])) (h : wpAny M A (call (.builtin id) (.ref x :: args)) (fun v => Q (some v)) E s) : wpAny M A (callSpecialIfBound? (.ref x) name args) Q E s := by
  have last : wpAny M A (do return some (← call (.builtin id) ([.ref x] ++ args))) Q E s := wpAny_bind (wpAny_mono h (fun v s' q => wpAny_pure q) fun _ _ q => q)
  unfold callSpecialIfBound? bindSpecialIfBound?
  refine wpAny_holding (wpAny_bind (wpAny_bind (wpAny_bind (I.type.here ((looks_findIn X hs).here (wpAny_bind (wpAny_askSetting (wpAny_ite ?_))))))))
  simp only [hb]
  split
  · exact wpAny_bind (wpAny_pure (wpAny_pure (by exact last)))
  · exact wpAny_tryCatch (wpAny_bind (wpAny_pure (wpAny_pure (by exact last))))
open PySem.W in
theorem objNe_K (X : K.In s.heap) (I : InstAt s.heap x ox C od) (hs : findIn K (.ref C) "__eq__" = some (some (.ref f))) (hf : isFn K (.ref f) = true) (hu : A.units < cLine) {Q : Fin → Shared → Prop}
    (h : wpAny (model prog w) A (call (.ref f) [.ref x, b]) (fun v s' => ∃ c, v = .bool c ∧ Q (.done (.ret (.bool (!c)))) s') E s) : wpAny (model prog w) A (Builtin.«object.__ne__» ⟨[.ref x, b], []⟩) Q E s := by
  unfold Builtin.«object.__ne__»
  refine wpAny_bind (wpAny_of_eq (a := ((Value.ref x : Value), [b])) (by first | rfl | (simp only [slotArgs]; rfl)) ?_)
  refine wpAny_bind (wpAny_cRoomFor hu (wpAny_bind (ifBound_K X I hs hf (wpAny_mono h (fun v s' q => ?_) fun _ _ q => q))))
  obtain ⟨c, rfl, q⟩ := q
  refine wpAny_bind (wpAny_truthy_bool ?_)
  first | exact wpAny_pure q | exact wpAny_pure (wpAny_pure q) | exact q
open PySem.W in
theorem rcNe_K (hu : A.units + 1 < cLine) (X : K.In s.heap) (I : InstAt s.heap x ox C od) (hb : Looks (model prog w) s.heap (typeOf b) tb) (hn : notFirst K C tb = true) (h1 : findIn K (.ref C) "__ne__" = some (some (.builtin "object.__ne__")))
    (hs : findIn K (.ref C) "__eq__" = some (some (.ref f))) (hf : isFn K (.ref f) = true) (ho : subIn K (.ref C) (.type "object") = some true) {Q : Value → Shared → Prop}
    (h : wpAny (model prog w) A.in1 (call (.ref f) [.ref x, b]) (fun v s' => ∃ c, v = .bool c ∧ Q (.bool (!c)) s') E s) : wpAny (model prog w) A (richCompare .NotEq (.ref x) b) Q E s := by
  have isO : Looks (model prog w) s.heap (isInstance (.ref x) (.type "object")) true := I.type.andThen (looks_subIn X ho)
  have one : wpAny (model prog w) A (tryCompare (.ref x) (cmpInfo .NotEq).2.1 b) (fun r s' => ∃ v, r = some v ∧ Q v s') E s := by
    unfold tryCompare
    refine wpAny_bind (ifBound_B X I h1 PySem.F.cmp_object.ne.bind (wpAny_call (codeAny_call_builtin PySem.F.cmp_object.ne.plain PySem.F.cmpEntry_ne ?_)))
    refine check_slot PySem.F.cmpKind_ne PySem.F.cmpSplit_ne isO (PySem.F.cmpArgs_ne _ _) ?_
    refine objNe_K (A := A.in1) X I hs hf hu (wpAny_mono h (fun v s' q => ?_) fun _ _ q => q)
    obtain ⟨c, rfl, q⟩ := q
    exact ⟨c, rfl, wpAny_pure ⟨_, rfl, q⟩⟩
  have fin : ∀ (r : Option Value) (s' : Shared), (∃ v, r = some v ∧ Q v s') → True := fun _ _ _ => trivial
  unfold richCompare
  simp only [oneThing_ref]
  refine wpAny_holding (wpAny_bind (wpAny_cRoomFor (Nat.lt_of_succ_lt hu) (wpAny_bind (I.type.here (wpAny_bind (hb.here ?_))))))
  split
  · rename_i q
    have e : subIn K tb (.ref C) = some false := by
      rcases Bool.or_eq_true_iff.mp hn with e | e
      · rw [beq_iff_eq.mp e] at q
        simp at q
      · exact beq_iff_eq.mp e
    refine wpAny_bind ((looks_subIn X e).here ?_)
    simp only [Bool.false_eq_true, if_false]
    refine wpAny_bind (wpAny_mono one (fun r s' z => ?_) fun _ _ e => e)
    obtain ⟨v, rfl, hq⟩ := z
    exact wpAny_pure hq
  · refine wpAny_bind (wpAny_pure ?_)
    simp only [Bool.false_eq_true, if_false]
    refine wpAny_bind (wpAny_mono one (fun r s' z => ?_) fun _ _ e => e)
    obtain ⟨v, rfl, hq⟩ := z
    exact wpAny_pure hq
end
/-- an instance of C against any value, by the text's own __eq__ -/
def rOwn (K : PySem.W.Frag) (C : Addr) (sp : Sp) (neg : Bool) : R2 := fun x y H Q => ∃ (a dx : Addr) (fs : List (Str × V)) (t : Value), x = .ref a ∧ H a = some (.ins C dx fs) ∧ TyX K H y t ∧ PySem.W.notFirst K C t = true ∧
  sp [.ref a, y] H (fun v H' => ∃ b : Bool, v = .bl b ∧ Q (.bl (if neg then !b else b)) H') E0
section
variable {X : Cx} {n : Nat} {C f : Addr} {fd : FuncData} {ps : List Str} {sp : Sp}
theorem op_eqO (F : FnOk X.prog X.w X.K X.mg X.base CX0 n f fd ps sp) (hs : PySem.W.findIn X.K (.ref C) "__eq__" = some (some (.ref f))) (hf : PySem.W.isFn X.K (.ref f) = true) (hb : Binds X.K fd ps []) (hr : Room n X.A) :
    OpR X (compareOp .Eq) (rOwn X.K C sp false) := by
  intro pins s σ H x y v u Q I rx ry h
  obtain ⟨a, dx, fs, t, rfl, ha, ty, hn, hsp⟩ := h
  cases rx
  obtain ⟨Pk, kit, pk, _⟩ := kit_of I ry ty
  obtain ⟨mA, J, _⟩ := ins_get I.hok ha
  obtain ⟨od, J, _⟩ := J.look
  obtain ⟨m, hF⟩ := I.fr
  unfold compareOp
  refine PySem.W.cmp_K (op := .Eq) (tb := t) hr.units0 hF I.ok.mod.kin J (kit.ty _ _ I.kIn pk) hn hs hf ?_
  have hl := F.len _ _ _ _ hsp
  refine wpAny_call (codeAny_mono (F.run X.A X.stack s H ⟨[.ref a, u], []⟩ [.ref a, u] [.ref a, y] _ E0 hr I.env0 (by simpa using hb s [.ref a, u] I.kIn (by simpa using hl)) (.cons rfl (.cons ry .nil)) hsp) fun r s' hq => ?_)
  match r, hq with
  | .ok (.ret w), hq =>
    obtain ⟨z, H', I', rz, b, rfl, q⟩ := I.after hq
    cases rz
    exact ⟨.bl b, H', I', rfl, q⟩
theorem op_neO (F : FnOk X.prog X.w X.K X.mg X.base CX0 n f fd ps sp) (h1 : PySem.W.findIn X.K (.ref C) "__ne__" = some (some (.builtin "object.__ne__"))) (ho : PySem.W.subIn X.K (.ref C) (.type "object") = some true)
    (hs : PySem.W.findIn X.K (.ref C) "__eq__" = some (some (.ref f))) (hf : PySem.W.isFn X.K (.ref f) = true) (hb : Binds X.K fd ps []) (hr : Room (n + 1) X.A) : OpR X (compareOp .NotEq) (rOwn X.K C sp true) := by
  intro pins s σ H x y v u Q I rx ry h
  obtain ⟨a, dx, fs, t, rfl, ha, ty, hn, hsp⟩ := h
  cases rx
  obtain ⟨Pk, kit, pk, _⟩ := kit_of I ry ty
  obtain ⟨mA, J, _⟩ := ins_get I.hok ha
  obtain ⟨od, J, _⟩ := J.look
  unfold compareOp
  refine rcNe_K (tb := t) (hu_of hr) I.kIn J (kit.ty _ _ I.kIn pk) hn h1 hs hf ho ?_
  have hl := F.len _ _ _ _ hsp
  refine wpAny_call (codeAny_mono (F.run X.A.in1 X.stack s H ⟨[.ref a, u], []⟩ [.ref a, u] [.ref a, y] _ E0 hr.in1 I.env0.in1 (by simpa using hb s [.ref a, u] I.kIn (by simpa using hl)) (.cons rfl (.cons ry .nil)) hsp) fun r s' hq => ?_)
  match r, hq with
  | .ok (.ret w), hq =>
    obtain ⟨z, H', I', rz, b, rfl, q⟩ := I.after hq
    cases rz
    exact ⟨b, rfl, .bl (!b), H', I', rfl, q⟩
end
end HL

namespace HL
open PySem PySem.Spec PyProof.Rows L2
/-! ### defs found by a path of one's own -/
structure DefA where
  at_ : PySem.W.Frag → Addr
  name : Str
  qual : Str
  params : Arguments
  body : List Stmt
  scope : Scope
  dfl : List He.Dv := []
  kwd : List (Str × He.Dv) := []
def fnA (K : PySem.W.Frag) (a : Addr) : He.FnW := match K.lookup a with
  | some ⟨_, _, .func fd, _⟩ => some (fd.name, fd.qualname, fd.params, fd.body, fd.scope, fd.globals, fd.closure, fd.builtins)
  | _ => none
def DefA.val (d : DefA) : He.FnW := some (d.name, d.qual, d.params, .stmts d.body, d.scope, mainGlobals, [], builtinsNs)
def DefA.dvs (K : PySem.W.Frag) (d : DefA) : List V := d.dfl.map (He.Dv.v K)
def DefA.kws (K : PySem.W.Frag) (d : DefA) : List (Str × V) := d.kwd.map fun q => (q.1, q.2.v K)
def DefA.ok (K : PySem.W.Frag) (d : DefA) : Bool := PySem.W.keepIn K (.ref (d.at_ K)) && (match K.lookup (d.at_ K) with
  | some ⟨_, _, .func fd, _⟩ => PySem.W.codeIn K fd.code d.qual && (He.dflB K fd.defaults (d.dvs K) && He.kwdB K fd.kwdefaults (d.kws K))
  | _ => false)
theorem DefA.funD {K : PySem.W.Frag} {d : DefA} (e : fnA K (d.at_ K) = d.val) (c : d.ok K = true) : ∃ fd, FunD K d.name d.qual d.params d.body d.scope (d.dvs K) (d.kws K) (d.at_ K) fd := by
  unfold DefA.ok at c
  obtain ⟨kp, c2⟩ := He.ba c
  unfold fnA at e
  generalize hl : K.lookup (d.at_ K) = o at c2 e
  match o, c2, e with
  | some ⟨oc, od, .func fd, osl⟩, c2, e =>
    obtain ⟨n1, n2, n3, n4, n5, n6, n7, n8, n9, n10, n11, n12, n13, n14, n15⟩ := fd
    have e2 : (some (n1, n2, n3, n4, n5, n6, n7, n15) : He.FnW) = d.val := e
    unfold DefA.val at e2
    simp only [Option.some.injEq, Prod.mk.injEq] at e2
    obtain ⟨h1, h2, h3, h4, h5, h6, h7, h8⟩ := e2
    subst h1 h2 h3 h4 h5 h6 h7 h8
    obtain ⟨k1, k2⟩ := He.ba (show (PySem.W.codeIn K n13 d.qual && (He.dflB K n8 (d.dvs K) && He.kwdB K n9 (d.kws K))) = true from c2)
    obtain ⟨k3, k4⟩ := He.ba k2
    exact ⟨_, ⟨oc, od, n8, n9, n10, n11, n12, n13, n14, osl, rfl, hl, k1, He.dflB_ok k3, He.kwdB_ok k4⟩, kp⟩
abbrev AlH : Type := He.AlX × List He.FnW
def exH (ex : PySem.W.Frag → Bool) (fn : List DefA) (K : PySem.W.Frag) : Bool := ex K && fn.all fun d => d.ok K
def obsH (n : Nat) (fa : List He.Fa) (ts : List He.Tab) (tf : List He.Defn) (ex : PySem.W.Frag → Bool) (fn : List DefA) (g : Addr → Option Obj) : AlH :=
  (He.obsX n fa [] ts tf (exH ex fn) g, fn.map fun d => fnA (He.frT g (He.asD g n)) (d.at_ (He.frT g (He.asD g n))))
def valH (ts : List He.Tab) (fn : List DefA) (w : World) : AlH := (He.valX [] ts w, fn.map DefA.val)
structure SaysH (fa : List He.Fa) (ts : List He.Tab) (tf : List He.Defn) (ex : PySem.W.Frag → Bool) (fn : List DefA) (w : World) (h : Heap) (K : PySem.W.Frag) : Prop where
  x : He.SaysX fa [] ts tf (exH ex fn) w h K
  f : fn.map (fun d => fnA K (d.at_ K)) = fn.map DefA.val
def hookH (n : Nat) (fa : List He.Fa) (ts : List He.Tab) (tf : List He.Defn) (ex : PySem.W.Frag → Bool) (fn : List DefA) : PySem.W.Hook where
  α := AlH
  obs := fun s => obsH n fa ts tf ex fn s.heap.get?
  val := fun w => valH ts fn w
  says := fun w h => ∃ K : PySem.W.Frag, K.In h ∧ SaysH fa ts tf ex fn w h K
  of := fun _ _ e => ⟨_, He.frT_in, He.saysX_of (congrArg (fun z : AlH => z.1) e), congrArg (fun z : AlH => z.2) e⟩
  keeps := fun _ _ _ ⟨K, hK, c⟩ k => ⟨K, PySem.W.Frag.In.keeps hK k, ⟨⟨c.x.t, c.x.more, c.x.hd, c.x.out, fun p hp => k _ _ (c.x.empty p hp)⟩, c.f⟩⟩
theorem obsH_eq {n : Nat} {fa : List He.Fa} {ts : List He.Tab} {tf : List He.Defn} {ex : PySem.W.Frag → Bool} {fn : List DefA} {g : Addr → Option Obj} {s : Shared} (h : ∀ a, g a = s.heap.get? a) : obsH n fa ts tf ex fn g = (hookH n fa ts tf ex fn).obs s := by
  rw [show g = s.heap.get? from funext h]
  rfl
section
variable {fa : List He.Fa} {ts : List He.Tab} {tf : List He.Defn} {ex : PySem.W.Frag → Bool} {fn : List DefA} {w : World} {h : Heap} {K : PySem.W.Frag}
theorem SaysH.more (c : SaysH fa ts tf ex fn w h K) : ex K = true := (He.ba c.x.more).1
theorem SaysH.def_ (c : SaysH fa ts tf ex fn w h K) (i : Nat) {d : DefA} (e : fn[i]? = some d) : ∃ fd, FunD K d.name d.qual d.params d.body d.scope (d.dvs K) (d.kws K) (d.at_ K) fd := by
  have q := congrArg (fun l => l[i]?) c.f
  simp only [List.getElem?_map, e, Option.map_some, Option.some.injEq] at q
  exact DefA.funD q (List.all_eq_true.mp (He.ba c.x.more).2 d (List.mem_of_getElem? e))
end
/-! ### paths -/
def gAt (x : Str) (K : PySem.W.Frag) : Addr := He.ga K x
def mAt (c m : Str) (K : PySem.W.Frag) : Addr := He.ma K (He.ga K c) m
/-- a property's getter -/
def pAt (c m : Str) (K : PySem.W.Frag) : Addr := match PySem.W.recIn K (mAt c m K) "property" with
  | some (.ref g :: _) => g
  | _ => 0
/-- the default of a keyword-only parameter, if it is an object -/
def kwAt (f : PySem.W.Frag → Addr) (x : Str) (K : PySem.W.Frag) : Addr := match K.lookup (f K) with
  | some ⟨_, _, .func fd, _⟩ => (match fd.kwdefaults with
    | .ref d => (match PySem.W.nsIn K d x with
      | some (some (.ref a)) => a
      | _ => 0)
    | _ => 0)
  | _ => 0
/-- a positional default, if it is an object -/
def dfAt (f : PySem.W.Frag → Addr) (i : Nat) (K : PySem.W.Frag) : Addr := match K.lookup (f K) with
  | some ⟨_, _, .func fd, _⟩ => (match fd.defaults with
    | .ref t => (match K.lookup t with
      | some ⟨_, _, .seq its _, _⟩ => (match its.toList[i]? with
        | some (.ref a) => a
        | _ => 0)
      | _ => 0)
    | _ => 0)
  | _ => 0
/-- a tuple of values at a path -/
def tupAB (K : PySem.W.Frag) (a : Addr) (vs : List He.Dv) : Bool := match K.lookup a with
  | some ⟨.type c, _, .seq its _, _⟩ => decide (c = "tuple") && (decide (its.size ≤ sizeLine) && He.relAll (vs.map (He.Dv.v K)) its.toList)
  | _ => false
theorem tupAB_ok {K : PySem.W.Frag} {a : Addr} {vs : List He.Dv} (h : tupAB K a vs = true) (H : Hp) : SqT K H a (vs.map (He.Dv.v K)) := by
  unfold tupAB at h
  split at h
  · rename_i c od its n sl hl
    obtain ⟨h1, h2⟩ := He.ba h
    obtain ⟨h3, h4⟩ := He.ba h2
    exact .inr ⟨_, its, n, hl, congrArg Value.type (of_decide_eq_true h1), rfl, of_decide_eq_true h3, He.relAll_ok h4⟩
  · cases h
/-- a property -/
def propB (K : PySem.W.Frag) (c m : Str) : Bool := He.eqO (PySem.W.findIn K (.ref (He.ga K c)) m) (some (some (.ref (mAt c m K)))) && (He.eqO (PySem.W.specialIn K (.ref (mAt c m K)) "__get__") (some (some (.builtin "property.__get__"))) &&
  (decide (PySem.W.takesIn K (.ref (mAt c m K)) = some true) && (match PySem.W.recIn K (mAt c m K) "property" with
    | some (.ref _ :: _) => true
    | _ => false)))
theorem propB_ok {K : PySem.W.Frag} {c m : Str} (h : propB K c m = true) : PropOf K (He.ga K c) m (mAt c m K) (pAt c m K) := by
  obtain ⟨h1, h⟩ := He.ba h
  obtain ⟨h2, h⟩ := He.ba h
  obtain ⟨h3, h4⟩ := He.ba h
  refine ⟨He.eqO_ok h1, He.eqO_ok h2, of_decide_eq_true h3, ?_⟩
  unfold pAt
  split at h4
  · rename_i g rest e
    rw [e]
    exact ⟨rest, rfl⟩
  · cases h4
/-- own == without own != -/
def eqB (K : PySem.W.Frag) (c : Str) : Bool := He.eqO (PySem.W.findIn K (.ref (He.ga K c)) "__ne__") (some (some (.builtin "object.__ne__"))) && (decide (PySem.W.subIn K (.ref (He.ga K c)) (.type "object") = some true) &&
  (He.eqO (PySem.W.findIn K (.ref (He.ga K c)) "__eq__") (some (some (.ref (mAt c "__eq__" K)))) && PySem.W.isFn K (.ref (mAt c "__eq__" K))))
/-- no built-in class lies below an own one -/
def nfB (K : PySem.W.Frag) (c : Str) (ts : List String) : Bool := ts.all fun t => PySem.W.notFirst K (He.ga K c) (.type t)
end HL

namespace HL
open PySem PySem.Spec PyProof.Rows L2
/-- sorted(xs) of a list or tuple of texts -/
def rSortedQ (K : PySem.W.Frag) : List V → Hp → VK → Prop := fun vs H Q => ∃ (a : Addr) (xs : List Str), vs = [V.ref a] ∧ (SqL K H a (xs.map V.str) ∨ SqT K H a (xs.map V.str)) ∧ xs.length < 64 ∧
  ∀ (ys : List Str) (p : Addr), ys.Perm xs → sortedS ys = true → H p = none → Q (.ref p) (upd H p (.lst (ys.map V.str)))
theorem cr_sortedQ {X : Cx} : CallR X (.builtin "sorted") (rSortedQ X.K) := by
  intro pins s σ H vs us Q I r h
  obtain ⟨a, xs, rfl, hq, h64, q⟩ := h
  have fin : ∀ (its : List Value) (T : String) (o : Obj) (n : Nat), (T = "list" ∨ T = "tuple") → s.heap.get? a = some o → o.cls = .type T → o.data = .seq its.toArray n → Vals (xs.map V.str) its →
      wpAny (model X.prog X.w) X.A (call (.builtin "sorted") us) (EP X pins σ Q) X.xe s := fun its T o n hT ho hc hd rv => by
    rw [Vals.ref1 r]
    have hlen0 := rv.length
    rw [List.length_map] at hlen0
    refine Calls.call_function_entry PyProof.Rows.kind_sorted PyProof.Rows.plain_sorted PyProof.Rows.entry_sorted (PyProof.Rows.args_sorted1 _) ?_
    unfold Builtin.«sorted»
    refine wpAny_bind (m := checkCount "sorted" 1 1 _) (wpAny_pure ?_)
    refine wpAny_bind (wpAny_collect_seq a hT ho hc hd (fun h' kp => ?_) ?_)
    · have I1 : Inv X pins σ H { s with heap := h' } := I.kept (t' := s.toks) kp
      refine wpAny_bind (wpAny_newList ?_ (by rw [← hlen0, sizeLine_eq]; omega))
      have hoL : (h'.push (seqObj "list" its.toArray 0)).get? h'.objs.size = some (seqObj "list" its.toArray 0) := Heap.get?_push_size _ rfl
      show wpAny _ _ _ _ _ { s with heap := h'.push (seqObj "list" its.toArray 0) }
      have hS : StrsAre its xs := rv.strs
      refine wpAny_bind (wpAny_holding (wpAny_call_entry PyProof.Rows.slot_list_sort ⟨_, hoL, rfl⟩ PyProof.Rows.entry_list_sort
        (list_sort_treeK strKind_oneLt (s := { s with heap := h'.push (seqObj "list" its.toArray 0) }) hoL hS.keysOf (fun v₁ v₂ rest e => keyKind_strs (by rw [← e]; exact hS)) (by rw [← hlen0]; exact h64) fun st' hp hs => ⟨_, rfl, ?_⟩)
        (PyProof.Rows.args_list_sort _)))
      obtain ⟨ys, g1, g2, g3⟩ := sorted_out_str hS hp hs
      obtain ⟨e', he'⟩ := PyProof.Rows.sortedHeap_at (vs := its) (out := (arrOf st').map (·.2)) hoL
      have hlen : (ys.map V.str).length ≤ sizeLine := by
        rw [List.length_map, g2.length_eq]
        exact Nat.le_trans (Nat.le_of_lt h64) (by decide)
      refine wpAny_pure ⟨_, rfl, .ref h'.objs.size, upd H h'.objs.size (.lst (ys.map V.str)), I1.laid (t' := s.toks) (fun b u e => ?_) (Nat.le_refl _)
        (show ObjOk X.prog X.w _ _ _ (.lst (ys.map V.str)) from ⟨hlen, ((arrOf st').map (·.2)).toList, e', vals_of_strs g1, by rw [Array.toArray_toList]; exact he'⟩), rfl, q ys _ g2 g3 (I1.hok.fresh (Nat.le_refl _))⟩
      have hb : b < h'.objs.size := Heap.lt_size e
      rw [PyProof.Rows.sortedHeap_old (Nat.ne_of_lt hb) (by rw [size_push']; exact Nat.lt_succ_of_lt hb)]
      exact Heap.get?_push_of_some _ e
    · rw [List.size_toArray, ← hlen0, sizeLine_eq]
      omega
  rcases hq with hq | hq
  · obtain ⟨its, rv, pl, hz⟩ := I.list hq
    obtain ⟨o, ho, hc, n, hd⟩ := pl.isList
    exact fin its _ o n (.inl rfl) ho hc hd rv
  · obtain ⟨its, rv, pl, hz⟩ := I.tuple hq
    obtain ⟨o, ho, hc, n, hd⟩ := pl
    exact fin its _ o n (.inr rfl) ho hc hd rv
end HL

namespace HL
open PySem PySem.Spec PyProof.Rows L2
/-! ### a class whose instances meet isinstance and == -/
def insB (K : PySem.W.Frag) (c : Str) (ts : List String) : Bool := (He.eqO (PySem.W.findIn K (.ref (He.ga K c)) "__class__") (some (some (.builtin "object.__class__"))) &&
  (He.eqO (PySem.W.specialIn K (.builtin "object.__class__") "__get__") (some (some (.builtin "getset_descriptor.__get__"))) && (decide (PySem.W.takesIn K (.builtin "object.__class__") = some true) &&
  decide (PySem.W.mroIn K (He.ga K c) (.type "object") = some true)))) && (ts.all fun t => decide (PySem.W.kitOne K (.type t) (.ref (He.ga K c)) = some false))
theorem ins_ty {K : PySem.W.Frag} {c : Str} {ts : List String} {H : Hp} {a dx : Addr} {fs : List (Str × V)} (h : insB K c ts = true) (cl : Cls K (He.ga K c)) (e : H a = some (.ins (He.ga K c) dx fs)) : TyX K H (.ref a) (.ref (He.ga K c)) := by
  obtain ⟨h, _⟩ := He.ba h
  obtain ⟨h1, h⟩ := He.ba h
  obtain ⟨h2, h⟩ := He.ba h
  obtain ⟨h3, h4⟩ := He.ba h
  exact .base (.ins e cl (He.eqO_ok h1) (He.eqO_ok h2) (of_decide_eq_true h3) (of_decide_eq_true h4))
theorem ins_not {K : PySem.W.Frag} {c : Str} {ts : List String} (h : insB K c ts = true) {t : String} (m : t ∈ ts) : PySem.W.kitOne K (.type t) (.ref (He.ga K c)) = some false :=
  of_decide_eq_true (List.all_eq_true.mp (He.ba h).2 t m)
theorem kit_self {K : PySem.W.Frag} {v : Value} : PySem.W.kitOne K v v = some true := by
  unfold PySem.W.kitOne
  simp
theorem nf_at {K : PySem.W.Frag} {c : Str} {ts : List String} (h : nfB K c ts = true) {t : String} (m : t ∈ ts) : PySem.W.notFirst K (He.ga K c) (.type t) = true := List.all_eq_true.mp h t m
/-! ### a def promised at a place -/
def At (P : Program) (w : World) (K : PySem.W.Frag) (mg : Str → Option Value) (base : Heap) (f : Addr) (k : Nat) (ps : List Str) (sp : Sp) : Prop := ∃ fd, FnOk P w K mg base CX0 k f fd ps sp ∧ Binds K fd ps []
section
variable {P : Program} {w : World} {K : PySem.W.Frag} {mg : Str → Option Value} {base : Heap} {x q : Str} {k : Nat} {ps : List Str} {sp : Sp} {f : Addr}
theorem at_of {st : Stmt} {N : List Str} (F : ∃ fd, FunD K x q (defArgs st) (defBody st) (defScope st) [] [] f fd) (S : FnScope N ps (defScope st))
    (hb : ∀ (kV doc pm : Value) (an : Option Addr) (cdv ct : Value) (us : List Value), us.length = ps.length → bindArgs (PySem.W.fnOf x q (defArgs st) (defBody st) (defScope st) .none kV doc pm an cdv ct) ⟨us, []⟩ = pure (ps.zip us))
    (len : ∀ vs H Q E, sp vs H Q E → vs.length = ps.length)
    (body : ∀ (cdv : Value) (A : Around) (outer : List Env) (s : Shared) (H : Hp) (vs : List V) (Q : VK) (E : XK), Room k (A.deeper (envOfC q (defScope st) s.heap.objs.size f cdv)) → sp vs H Q E →
      ∃ t, PSs (cxOf CX0 P w K mg base N q (defScope st) f cdv A outer s H E).nox (defBody st) t ∧ t { nx := fun _ H' => Q .non H', rt := Q } (start N vs) H) :
    At P w K mg base f (k + 1) ps sp := by
  obtain ⟨fd, F⟩ := F
  refine ⟨fd, F.ok S len fun cdv A outer s H vs Q E hr h => ?_, F.bindsN hb⟩
  obtain ⟨t, h1, h2⟩ := body cdv A outer s H vs Q E hr h
  exact ⟨t, h1.nox, h2⟩
end
section
variable {X : Cx} {k : Nat} {ps : List Str} {sp : Sp} {C f pr : Addr} {m : Str} {pos apos : Pos} {e o : Expr} {es : List Expr} {ta : TE} {t : TA}
theorem pe_at {pl : Sem Bool} (h : At X.prog X.w X.K X.mg X.base f k ps sp) (c : Cls X.K C) (hm : Meth X.K C m f) (hr : Room k X.A) (he : PE X o ta) (ha : PA X (e :: es) t)
    (hst : starEach (e :: es) X.env = (false, eval e X.env) :: starEach es X.env := by rfl) (hpl : (backTo pos (starEach es X.env)).any (·.1) = false := by rfl)
    (ht : eval (.Call (.Attribute o m apos) (e :: es) [] pos) X.env = (do
      let ov ← eval o X.env
      standAt apos.atName
      let (f, first) ← holding [ov] (getMethod ov m pl)
      callWith pos f first (backTo pos (starEach (e :: es) X.env)) (backToKw pos (keywordEach [] X.env))) := by rfl) :
    PE X (.Call (.Attribute o m apos) (e :: es) [] pos) (tMeth C m sp [] E0 ta t) := by
  obtain ⟨fd, F, hb⟩ := h
  exact pe_meth (pl := pl) he c hm F hr hb .nil pass0 ha hst hpl ht
theorem pe_at0 {pl : Sem Bool} (h : At X.prog X.w X.K X.mg X.base f k ps sp) (c : Cls X.K C) (hm : Meth X.K C m f) (hr : Room k X.A) (he : PE X o ta)
    (ht : eval (.Call (.Attribute o m apos) [] [] pos) X.env = (do
      let ov ← eval o X.env
      standAt apos.atName
      let (f, first) ← holding [ov] (getMethod ov m pl)
      callWith pos f first (backTo pos (starEach [] X.env)) (backToKw pos (keywordEach [] X.env))) := by rfl) :
    PE X (.Call (.Attribute o m apos) [] [] pos) (tMeth C m sp [] E0 ta tNil) := by
  obtain ⟨fd, F, hb⟩ := h
  exact pe_meth0 (pl := pl) he c hm F hr hb .nil pass0 ht
theorem pe_atP (h : At X.prog X.w X.K X.mg X.base f k ps sp) (c : Cls X.K C) (hp : PropOf X.K C m pr f) (hr : Room (k + 1) X.A) (he : PE X e ta) (hab : attributeBase e m X.env (eval e X.env) = eval e X.env := by rfl) :
    PE X (.Attribute e m pos) (tProp C sp [] E0 ta) := by
  obtain ⟨fd, F, hb⟩ := h
  exact pe_prop he c hp F hr hb .nil pass0 hab
theorem at_getter {P : Program} {w : World} {K : PySem.W.Frag} {mg : Str → Option Value} {base : Heap} {x q g : Str} {args : Arguments} {body : List Stmt} {sc : Scope} {N : List Str} {p1 p2 p3 : Pos}
    (F : ∃ fd, FunD K x q args body sc [] [] f fd) (S : FnScope N ["self"] sc) (hN : N[0]? = some ("self" : Str)) (hbo : body = [.Return (some (.Attribute (.Name "self" p1) g p2)) p3]) (c : Cls K C) (n : NoAttr K C g)
    (hb : ∀ (kV doc pm : Value) (an : Option Addr) (cdv ct : Value) (us : List Value), us.length = 1 → bindArgs (PySem.W.fnOf x q args body sc .none kV doc pm an cdv ct) ⟨us, []⟩ = pure ((["self"] : List Str).zip us)) :
    At P w K mg base f 1 ["self"] (getSp C g) := by
  obtain ⟨fd, F⟩ := F
  have B := F.bindsN (ps := [Str.ofString "self"]) hb
  obtain ⟨oc, od, dV, kV, doc, pm, an, cdv, ct, osl, rfl, lk, hcd, hD, hK⟩ := F.ex
  exact ⟨_, fn_getter (k := 0) lk hcd S hN hbo c n, B⟩
/-- o.m(k = v, ..) -/
theorem pe_methK0 {CX : CXT} {fd : FuncData} {ks : List Str} {E : XK} {kws : List Keyword} {tk : TA} {g : List Value → List Value → List Value} {gV : List V → List V → List V} {pl : Sem Bool} (he : PE X o ta) (c : Cls X.K C) (hm : Meth X.K C m f)
    (F : FnOk X.prog X.w X.K X.mg X.base CX k f fd ps sp) (hr : Room k X.A) (hb : KBn X.K fd ps 1 ks g gV) (hx : Passes CX X E) (hkw : PK X kws tk)
    (hall : (backToKw pos (keywordEach kws X.env)).all (·.1.isSome) = true := by rfl) (hks : (backToKw pos (keywordEach kws X.env)).filterMap (·.1) = ks := by rfl)
    (hpl : ((backTo pos (starEach [] X.env)).any (·.1) || (backToKw pos (keywordEach kws X.env)).any (·.1.isNone)) = false := by rfl)
    (ht : eval (.Call (.Attribute o m apos) [] kws pos) X.env = (do
      let ov ← eval o X.env
      standAt apos.atName
      let (f, first) ← holding [ov] (getMethod ov m pl)
      callWith pos f first (backTo pos (starEach [] X.env)) (backToKw pos (keywordEach kws X.env))) := by rfl) :
    PE X (.Call (.Attribute o m apos) [] kws pos) (fun σ H Q => ta σ H fun x H1 => ∃ a dx fs, x = .ref a ∧ H1 a = some (.ins C dx fs) ∧ fs.lookup m = none ∧ tk σ H1 fun zs H2 => zs.length = ks.length ∧ sp (gV [.ref a] zs) H2 Q E) := by
  refine ⟨fun pins s σ H Q I h => ?_⟩
  refine PySem.W.methodCall_KW (pl := pl) (thn (he.run pins s σ H _ I h) fun u s1 ⟨x, H1, I1, rx, a, dx, fs, ex, ea, l, q⟩ => ?_) ht
  subst ex
  obtain rfl : u = Value.ref a := rx
  refine getmeth_ok I1 ea c hm l ?_
  refine PySem.W.callWith_KW0 (first := [.ref a]) (h₀ := X.base) I.ok.mod.kin hm.kp hall ?_ hpl
  refine thn (hkw.run pos pins s1 σ H1 _ I1 q) fun ws s2 ⟨zs, H2, I2, rz, lz, q2⟩ => ⟨I2.kIn, ?_⟩
  rw [hks]
  have r2 := hb.rel (vs := [.ref a]) (us := [.ref a]) (.cons rfl .nil) rz
  refine wpAny_call (codeAny_mono (F.run X.A X.stack s2 H2 ⟨[.ref a], ks.zip ws⟩ (g [.ref a] ws) (gV [.ref a] zs) Q E hr I2.env0 (hb.to s2 [.ref a] ws I2.kIn rfl (rz.length.symm.trans lz)) r2 q2) fun r s' hq => ?_)
  cases r with
  | error e => exact hx pins σ H2 s2 e s' I2 hq
  | ok fl =>
    cases fl with
    | ret u => exact I2.after hq
    | next => exact False.elim hq
    | brk => exact False.elim hq
    | cont => exact False.elim hq
end
/-! ### == of own objects -/
section
variable {X : Cx} {n : Nat} {c : Str} {ps : List Str} {sp : Sp}
theorem op_eqA (h : At X.prog X.w X.K X.mg X.base (mAt c "__eq__" X.K) n ps sp) (e : eqB X.K c = true) (hr : Room n X.A) : OpR X (compareOp .Eq) (rOwn X.K (He.ga X.K c) sp false) := by
  obtain ⟨fd, F, hb⟩ := h
  obtain ⟨h1, e⟩ := He.ba e
  obtain ⟨h2, e⟩ := He.ba e
  obtain ⟨h3, h4⟩ := He.ba e
  exact op_eqO F (He.eqO_ok h3) h4 hb hr
theorem op_neA (h : At X.prog X.w X.K X.mg X.base (mAt c "__eq__" X.K) n ps sp) (e : eqB X.K c = true) (hr : Room (n + 1) X.A) : OpR X (compareOp .NotEq) (rOwn X.K (He.ga X.K c) sp true) := by
  obtain ⟨fd, F, hb⟩ := h
  obtain ⟨h1, e⟩ := He.ba e
  obtain ⟨h2, e⟩ := He.ba e
  obtain ⟨h3, h4⟩ := He.ba e
  exact op_neO F (He.eqO_ok h1) (of_decide_eq_true h2) (He.eqO_ok h3) h4 hb hr
end
/-! ### texts in a row -/
theorem inV_strs {z : Str} : ∀ ws : List Str, inV (.str z) (ws.map V.str) = decide (z ∈ ws)
  | [] => rfl
  | y :: r => by
    have q := inV_strs (z := z) r
    unfold inV at q ⊢
    rw [List.map_cons, List.any_cons, q]
    by_cases h : y = z
    · subst h
      simp [eqV]
    · have h2 : ¬ z = y := fun e => h e.symm
      simp [eqV, h, h2]
theorem flat_strs (ws : List Str) : (ws.map V.str).all flatV = true := by
  rw [List.all_map]
  exact List.all_eq_true.mpr fun _ _ => rfl
end HL

namespace HL
open PySem PySem.Spec PyProof.Rows L2
/-! ### a caught error, kept as a value -/
/-- at a stands an error of the class cls, its own dict at d -/
def ErrO (a : Addr) (cls : Value) (d : Option Addr) : HO := .ext fun h => ∃ (oe : Obj) (vs : Array Value), h.get? a = some oe ∧ Zc cls d oe ∧ oe.data = .fields vs
theorem errO_ok {P : Program} {w : World} {H : Hp} {h : Heap} {a : Addr} {cls : Value} {d : Option Addr} {oe : Obj} {vs : Array Value} (e : h.get? a = some oe) (z : Zc cls d oe) (q : oe.data = .fields vs) : ObjOk P w H h a (ErrO a cls d) :=
  ⟨⟨oe, vs, e, z, q⟩, ⟨oe, e⟩, fun _ _ ⟨o1, v1, e1, z1, q1⟩ k => ⟨o1, v1, k _ e1, z1, q1⟩⟩
theorem inv_suite0 {X : Cx} {pins : List (Addr × Obj)} {σ : L2.St} {H : Hp} {s : Shared} (I : Inv X pins σ H s) (a : Addr) : Inv (X.suite a (X.pn ++ pins)) [] σ H s :=
  ⟨I.ok.suite _ _, I.os, I.bare, I.base, I.loc, I.cell, I.free, I.freeC, fun p hp => I.pin p (by rw [List.append_nil] at hp; exact hp), I.hok, I.len⟩
theorem inv_unsuite0 {X : Cx} {pins pn' : List (Addr × Obj)} {σ : L2.St} {H : Hp} {s : Shared} {a : Addr} (I : Inv (X.suite a (X.pn ++ pins)) pn' σ H s) (ok : X.Ok) : Inv X pins σ H s :=
  ⟨ok, I.os, I.bare, I.base, I.loc, I.cell, I.free, I.freeC, fun p hp => I.pin p (List.mem_append_left _ hp), I.hok, I.len⟩
def wKeep (K : PySem.W.Frag) (c : Value) (i j : Nat) (D : Ends) : WX := fun cls d σ H => PySem.W.exmOne K cls c = some true ∧ ∀ a, H a = none → D.nx (((σ.set i (some (.ref a))).set j (some (.ref a))).set i none) (upd H a (ErrO a cls d))
section
variable {X : Cx} {x n y : Str} {c : Value} {i j : Nat} {body : List Stmt} {np p1 p2 p3 pos pos' : Pos} {tb : WX → TS}
theorem ps_try_keep (hs : X.stack = X.env :: X.outer) (hf : X.env.frame = some X.env.locals) (hN : X.N.Nodup) (hi : X.N[i]? = some n) (hln : X.env.kindOf n = some .local) (hj : X.N[j]? = some y) (hly : X.env.kindOf y = some .local) (hij : i < X.N.length) (hc : Names X x c)
    (hb : ∀ (W : WX) (pn : List (Addr × Obj)) (xe : Value → Shared → Prop), Takes (X.tr pn xe) W → PSs (X.tr pn xe) body (tb W)) (hdn : (n == ("__debug__" : Str)) = false := by decide) (hcn : (n == ("__classdict__" : Str)) = false := by decide) :
    PS X (.Try body [.ExceptHandler (some (.Name x np)) (some n) [.Assign [.Name y p1] (.Name n p2) p3] pos'] [] [] pos) (fun D σ H => tb (wKeep X.K c i j D) D σ H) := by
  refine ⟨fun pins s σ H D I h => ?_⟩
  have ok := I.ok
  have hfr : X.A.frames = some (X.env :: X.outer) := ok.frames.trans (congrArg some hs)
  refine wpAny_Try_except (wpAny_mono ((hb (wKeep X.K c i j D) (X.pn ++ pins) (fun e t1 => wpAny (model X.prog X.w) X.A (noteFrame e X.env) (fun _ t2 => wpAny (model X.prog X.w) X.A (setFlight e none) (fun _ t3 =>
    wpAny (model X.prog X.w) X.A (handleBy e X.env [.ExceptHandler (some (.Name x np)) (some n) [.Assign [.Name y p1] (.Name n p2) p3] pos']) (SP X pins D) X.xe t3) X.xe t2) X.xe t1) (fun u s' xx => ?_)).run [] s σ H D (I.toTry _) h) (fun f s1 q1 => ?_) (fun _ _ z => z))
  · obtain ⟨a, B, sI, pins', σ', H', cls, d, rfl, J', nb, up, sky, na, os, ag, hb1, hyes⟩ := xx
    have J : Inv X pins σ' H' sI := J'.ofTry ok
    rw [hs] at sky
    have nbX : ∀ b o, sI.heap.get? b = some o → b ∉ frs X.stack → B.get? b = some o := nb
    have land : ∀ {h4 : Heap}, HandSPX.FlyingZ B (X.env :: X.outer) a (Zc cls d) h4 → sI.heap.UpToSlots h4 → Inv X pins σ' (upd H' a (ErrO a cls d)) { s' with heap := h4 } := fun {h4} fl upp => by
      obtain ⟨oe, vs, he, hz, hd⟩ := fl.there
      obtain ⟨st, na0, ff, _⟩ := id fl
      obtain ⟨G, g1, g2⟩ := restrict h4 fun b => !decide (b = a)
      have ga : G.get? a = none := g2 a (by simp)
      have gb : ∀ b, b ≠ a → G.get? b = h4.get? b := fun b nb => g1 b (by simp [nb])
      have nfr : a ∉ frs (X.env :: X.outer) := fun hm => by
        obtain ⟨_, o', e', hnf⟩ := ff.mem hm
        rw [he] at e'
        cases e'
        exact hnf _ hd
      have naI : sI.heap.get? a = none := by
        cases e : sI.heap.get? a with
        | none => rfl
        | some o => rw [nbX a o e (by rw [hs]; exact nfr)] at na0; cases na0
      have JG : Inv X pins σ' H' { s' with heap := G } := J.landed (s' := { s' with heap := G }) nb (fun b o e => (gb b (fun z => by rw [z, na0] at e; cases e)).trans (st b o e)) (fun b o e hh => by
        have z := upp b o e hh
        have nz : b ≠ a := fun z => by rw [z, naI] at e; cases e
        rw [gb b nz]
        exact z) os ag
      exact JG.laidN (t' := s'.toks) (fun b u e => by
        have nz : b ≠ a := fun z => by
          have e2 : G.get? b = some u := e
          rw [z, ga] at e2
          cases e2
        exact (gb b nz).symm.trans e) ga na (errO_ok he hz hd)
    show wpAny (model X.prog X.w) X.A (noteFrame (.ref a) X.env) _ _ _
    refine Sky.land Zc.steady hfr hf sky fun h3 fl3 up3 => ?_
    have J3 := land fl3 (up.trans up3)
    have S3 := inv_suite0 J3 a
    obtain ⟨oe3, vs3, he3, hz3, hd3⟩ := fl3.there
    refine wpAny_handleBy_cons (codeAny_handlers_test ?_) (by intro q; cases q)
    have LT : PySem.W.Looks (model X.prog X.w) h3 (typeOf (.ref a)) cls := fun A Q E s k q => wpAny_typeOf_ref (k _ _ he3) (by rw [hz3.1]; exact q)
    have LM := PySem.W.exm_one (M := model X.prog X.w) (J3.kIn) LT hb1
    have test : ∀ {Q : Value → Shared → Prop} {E : Value → Shared → Prop}, Q c { s' with heap := h3 } → wpAny (model X.prog X.w) (X.A.mark (some (.ref a))) (eval (.Name x np) X.env) Q E { s' with heap := h3 } := by
      intro Q E q
      obtain ⟨hg, hdbg, hm | ⟨hm, hv, hnn⟩⟩ := hc
      · exact ld_glob (X := X.suite a (X.pn ++ pins)) S3 hg hm q hdbg
      · exact ld_blt (X := X.suite a (X.pn ++ pins)) S3 hg hm hv q hnn hdbg
    refine test (LM.here (codeAny_handlers_suite_as (HandSPX.lands_againZ fl3 fun h4 fl4 up4 => ?_)))
    have S4 := inv_suite0 (land fl4 ((up.trans up3).trans up4)) a
    refine store_ok (X := X.suite a (X.pn ++ pins)) (v := .ref a) S4 hN hi (.inl hln) rfl (fun s5 S5 => ?_) (.inr hln)
    have vn : Vis X.env.scope n := .inl hln
    have pn : PSs (X.suite a (X.pn ++ pins)) [.Assign [.Name y p1] (.Name n p2) p3] _ := pss_one (ps_set (i := j) hN hj (.inl hly) (pe_var (X := X.suite a (X.pn ++ pins)) (i := i) hi vn hdn hcn) rfl (.inr hly))
    have hlen : i < σ'.length := by
      rw [J.len]
      exact hij
    refine wpAny_mono (pn.run [] s5 _ _ { nx := fun σ6 H6 => D.nx (σ6.set i none) H6, rt := fun _ _ => False, bk := fun _ _ => False, ct := fun _ _ => False } S5 ⟨.ref a, List.getElem?_set_self hlen, hyes a na⟩) (fun f s6 q6 => ?_) (fun _ _ z => False.elim z)
    cases f with
    | next =>
      obtain ⟨σ6, H6, S6, q6⟩ := q6
      exact gone_ok (inv_unsuite0 S6 ok) hN hi hln fun s7 J7 => ⟨_, _, J7, q6⟩
    | brk => obtain ⟨_, _, _, z⟩ := q6; exact z.elim
    | cont => obtain ⟨_, _, _, z⟩ := q6; exact z.elim
    | ret u => obtain ⟨_, _, _, _, _, z⟩ := q6; exact z.elim
  · cases f with
    | next => obtain ⟨σ', H', J', q⟩ := q1; exact wpAny_execs_nil ⟨σ', H', J'.ofTry ok, q⟩
    | brk => obtain ⟨σ', H', J', q⟩ := q1; exact ⟨σ', H', J'.ofTry ok, q⟩
    | cont => obtain ⟨σ', H', J', q⟩ := q1; exact ⟨σ', H', J'.ofTry ok, q⟩
    | ret u => obtain ⟨v, σ', H', J', r, q⟩ := q1; exact ⟨v, σ', H', J'.ofTry ok, r, q⟩
end
end HL

namespace HL
open PySem PySem.Spec PyProof.Rows L2 LamX
/-! ### a function value without parameters, by what its call does -/
abbrev TL := XK → Hp → VK → Prop
theorem un_chain {fs fs' : List Addr} {H H1 H2 : Hp} {h h1 h2 : Heap} (a : Un fs [] H H1 h h1) (b : Un fs' [] H1 H2 h1 h2) (m : ∀ c ∈ fs', c ∈ fs ∨ h.get? c = none) : Un fs [] H H2 h h2 where
  keep := fun c o e n hc hx => b.keep c o (a.keep c o e n hc hx) (a.free c o e n hx) (fun z => (m c z).elim hc fun z => by rw [z] at e; cases e) hx
  slot := fun c o e n hc hx => by
    obtain ⟨sl, e1⟩ := a.slot c o e n hc hx
    obtain ⟨sl2, e2⟩ := b.any e1 (a.free c o e n hx) hx
    exact ⟨sl2, e2⟩
  free := fun c o e n hx => by
    obtain ⟨o1, e1⟩ := a.there c o e hx
    exact b.free c o1 e1 (a.free c o e n hx) hx
  there := fun c o e hx => by
    obtain ⟨o1, e1⟩ := a.there c o e hx
    exact b.there c o1 e1 hx
  tups := fun c xs e => b.tups c xs (a.tups c xs e)
  frzs := fun c o u e => b.frzs c o u (a.frzs c o u e)
  tbls := fun c ps e => by
    obtain ⟨m1, e1⟩ := a.tbls c ps e
    obtain ⟨m2, e2⟩ := b.tbls c _ e1
    exact ⟨m1 ++ m2, by rw [e2, Array.append_assoc]⟩
/-- the call of f, as from (s0, H0) on -/
def Act (P : Program) (w : World) (K : PySem.W.Frag) (mg : Str → Option Value) (base : Heap) (k : Nat) (fs0 : List Addr) (s0 : Shared) (H0 : Hp) (f c' : Addr) (q : Str) (tl : TL) : Prop :=
  (∃ o fd, s0.heap.get? f = some o ∧ o.data = .func fd) ∧ H0 f = none ∧ f ∉ fs0 ∧
  ∀ (A : Around) (outer : List Env) (s1 : Shared) (HZ : Hp) (Q : VK) (E : XK), Room k A → Env0 P w K mg base A outer s1 HZ → Un fs0 [] H0 HZ s0.heap s1.heap → HZ c' = some (CodeO c' q) → tl E HZ Q →
    codeAny (model P w) A (.call (.ref f) ⟨[], []⟩) (CR (L2.CX P w) outer P w HZ s1 Q E) s1
theorem Act.there {P : Program} {w : World} {K : PySem.W.Frag} {mg : Str → Option Value} {base : Heap} {k : Nat} {fs0 fs : List Addr} {s0 : Shared} {H0 H : Hp} {h : Heap} {f c' : Addr} {q : Str} {tl : TL} (ac : Act P w K mg base k fs0 s0 H0 f c' q tl) (un : Un fs0 [] H0 H s0.heap h)
    (hfr : ∀ b ∈ fs, b ∈ fs0 ∨ s0.heap.get? b = none) : (∃ o, h.get? f = some o ∧ ∃ fd, o.data = .func fd) ∧ H f = none ∧ f ∉ fs := by
  obtain ⟨⟨o, fd, ho, hd⟩, hn, hf, _⟩ := ac
  have nx : f ∉ ([] : List Addr) := fun z => by cases z
  refine ⟨⟨o, un.keep f o ho hn hf nx, fd, hd⟩, un.free f o ho hn nx, fun z => ?_⟩
  rcases hfr f z with z | z
  · exact hf z
  · rw [z] at ho; cases ho
section
variable {X : Cx} {pins : List (Addr × Obj)} {σ : L2.St} {H : Hp} {s : Shared} {f c' : Addr} {pm ctv : Value} {params : Arguments} {body : Expr} {scope : Scope} {k : Nat} {t : XK → TE}
theorem act_make (I : Inv X pins σ H s) (L : LamS X.env.scope scope) (hf : s.heap.get? f = some (PySem.W.kla_obj "<lambda>" (X.env.qual ++ "<lambda>") params body scope (cloFrom X.env.cells scope.names []) pm c' ctv)) (hfn : H f = none) (hfr : f ∉ frs X.stack)
    (hbind : bindArgs (PySem.W.kla_fn "<lambda>" (X.env.qual ++ "<lambda>") params body scope (cloFrom X.env.cells scope.names []) pm (.ref c') ctv) ⟨[], []⟩ = pure [])
    (hbody : ∀ (A : Around) (outer : List Env) (s : Shared) (H : Hp) (E : XK), Room k (A.deeper (lamEnv X scope s.heap.objs.size f c')) → PE (lamCx X A outer s H E scope f c') body (t E)) :
    Act X.prog X.w X.K X.mg X.base (k + 1) (frs X.stack) s H f c' (X.env.qual ++ "<lambda>") (fun E H' Q' => t E σ H' Q') := by
  refine ⟨⟨_, _, hf, rfl⟩, hfn, hfr, fun A outer s1 HZ Q E hr e0 un hc ht => ?_⟩
  have of1 := un.keep f _ hf hfn hfr (fun z => nomatch (show f ∈ ([] : List Addr) from z))
  obtain ⟨⟨oc, vs, tq, hoc, hdc, hvc⟩, _, _⟩ := e0.hok c' _ hc
  refine PySem.W.kla_callFunE hr.depth of1 rfl L.co L.gen rfl ⟨c', oc, vs, tq, rfl, hoc, hdc, hvc⟩ ?_
  rw [hbind]
  have lim : s1.heap.NoLimit := e0.mod.nolimit.keeps fun b o e => (e0.bs b o e).1
  refine wpAny_pure (wpAny_newFunctionEnv (fun y hy => (L.own y hy).2) (fun y hy => absurd hy (by simp)) (fun h1 hns hsb => ⟨lim.fresh _ hsb, ?_⟩) L.kind)
  have kp : ∀ b o, s1.heap.get? b = some o → h1.get? b = some o := fun b o e => hsb.extBut b o (Nat.ne_of_lt (Heap.lt_size e)) (Heap.get?_push_of_some _ e)
  have J := lam_start2 (E := E) (f := f) (c' := c') (tk := s1.toks + ([] : List (Str × Value)).length) I L e0 hr.hd un hns kp
  show codeAny _ _ (.expr body (lamEnv X scope s1.heap.objs.size f c')) _ _
  refine PySem.W.kla_codeExpr (wpAny_mono ((hbody A outer s1 HZ E (hr.deeper _)).run [] _ _ HZ Q J ht) (fun v s' hq => ?_) fun e s' hq => hq)
  obtain ⟨w', H', J', rv, q⟩ := hq
  exact ⟨w', H', J'.os, J'.bare, J'.base, J'.hok, rv, q⟩
end
/-- a def that is handed such a value -/
def HF (P : Program) (w : World) (K : PySem.W.Frag) (mg : Str → Option Value) (base : Heap) (x : Str) (k0 k : Nat) (ps : List Str) (sp : TL → Addr → Sp) : Prop :=
  ∃ g fd, mg x = some (.ref g) ∧ PySem.W.keepIn K (.ref g) = true ∧ Binds K fd ps [] ∧ (∀ tl f vs H Q E, sp tl f vs H Q E → vs.length = ps.length) ∧
    ∀ (A : Around) (outer : List Env) (s : Shared) (H : Hp) (args : Args) (us : List Value) (vs : List V) (Q : VK) (E : XK), A.guards = some [] → Room k A → Env0 P w K mg base A outer s H → BindsTo s fd args (ps.zip us) → Vals vs us →
      ∀ (fs0 : List Addr) (s0 : Shared) (H0 : Hp) (f c' : Addr) (q : Str) (tl : TL), Act P w K mg base k0 fs0 s0 H0 f c' q tl → Un fs0 [] H0 H s0.heap s.heap → (∀ b ∈ frs outer, b ∈ fs0 ∨ s0.heap.get? b = none) → H c' = some (CodeO c' q) → sp tl f vs H Q E →
        codeAny (model P w) A (.call (.ref g) args) (CR CX0 outer P w H s Q E) s
section
variable {P : Program} {w : World} {K : PySem.W.Frag} {mg : Str → Option Value} {base : Heap} {x : Str} {k0 k : Nat} {ps : List Str} {sp : TL → Addr → Sp}
theorem hf_of {g : Addr} {st : Stmt} {N : List Str} (hg : mg x = some (.ref g)) (F : ∃ fd, FunD K x x (defArgs st) (defBody st) (defScope st) [] [] g fd) (S : FnScope N ps (defScope st))
    (hb : ∀ (kV doc pm : Value) (an : Option Addr) (cdv ct : Value) (us : List Value), us.length = ps.length → bindArgs (PySem.W.fnOf x x (defArgs st) (defBody st) (defScope st) .none kV doc pm an cdv ct) ⟨us, []⟩ = pure (ps.zip us))
    (len : ∀ tl f vs H Q E, sp tl f vs H Q E → vs.length = ps.length)
    (bd : ∀ (cdv : Value) (A : Around) (outer : List Env) (s : Shared) (H : Hp) (vs : List V) (Q : VK) (E : XK) (fs0 : List Addr) (s0 : Shared) (H0 : Hp) (f c' : Addr) (q : Str) (tl : TL), A.guards = some [] → Room k (A.deeper (envOfC x (defScope st) s.heap.objs.size g cdv)) →
      Act P w K mg base k0 fs0 s0 H0 f c' q tl → Un fs0 [] H0 H s0.heap s.heap → (∀ b ∈ frs outer, b ∈ fs0 ∨ s0.heap.get? b = none) → H c' = some (CodeO c' q) → sp tl f vs H Q E →
      ∃ t, PSs (cxOf CX0 P w K mg base N x (defScope st) g cdv A outer s H E).nox (defBody st) t ∧ t { nx := fun _ H' => Q .non H', rt := Q } (start N vs) H) :
    HF P w K mg base x k0 (k + 1) ps sp := by
  obtain ⟨fd, F⟩ := F
  have B := F.bindsN (ps := ps) hb
  have kp := F.kp
  obtain ⟨oc, od, dV, kV, doc, pm, an, cdv, ct, osl, rfl, lk, hcd, hD, hK⟩ := F.ex
  refine ⟨g, _, hg, kp, B, len, fun A outer s H args us vs Q E gd hr e0 bt r fs0 s0 H0 f c' q tl ac un hfr hc h => ?_⟩
  refine LamX.run_ofS (N := N) lk hcd S hr e0 bt r (len _ _ _ _ _ _ h) fun hr' => ?_
  obtain ⟨t, h1, h2⟩ := bd cdv A outer s H vs Q E fs0 s0 H0 f c' q tl gd hr' ac un hfr hc h
  exact ⟨t, h1.nox, h2⟩
end
section
variable {X : Cx} {k0 k : Nat} {fs0 : List Addr} {s0 : Shared} {H0 : Hp} {f c' : Addr} {q : Str} {tl : TL} {p p1 p2 pos lpos : Pos}
/-- a(), where a holds the value -/
theorem pe_actF {W : WX} {a : Str} {i : Nat} (ac : Act X.prog X.w X.K X.mg X.base k fs0 s0 H0 f c' q tl) (un : Un fs0 [] H0 X.H_0 s0.heap X.s_0.heap) (hfr : ∀ b ∈ X.fs, b ∈ fs0 ∨ s0.heap.get? b = none) (hex : X.ex = []) (hr : Room k X.A) (tk : Takes X W)
    (hN : X.N[i]? = some a) (hv : Vis X.env.scope a) (hd : (a == ("__debug__" : Str)) = false := by decide) (hcd : (a == ("__classdict__" : Str)) = false := by decide) :
    PE X (.Call (.Name a p1) [] [] p2) (fun σ H Q => σ[i]? = some (some (.ref f)) ∧ H c' = some (CodeO c' q) ∧ tl (fun cls d H' => W cls d σ H') H Q) := by
  obtain ⟨hob, hn, hnf⟩ := ac.there un hfr
  refine ⟨fun pins s σ H Q I h => ?_⟩
  obtain ⟨hs, hc, ht⟩ := h
  refine wpAny_Call_Name_kw (thn ((pe_var (pos := p1) (i := i) hN hv hd hcd).run pins s σ H (fun v H1 => v = .ref f ∧ H1 = H) I ⟨.ref f, hs, rfl, rfl⟩) fun u s1 ⟨v, H1, I1, r1, q1⟩ => ?_)
  obtain ⟨ev, eH⟩ := q1
  subst ev eH
  obtain rfl : u = Value.ref f := r1
  have nx : ∀ b : Addr, b ∉ X.ex := fun b z => by rw [hex] at z; cases z
  have b1 : Un X.fs [] X.H_0 H1 X.s_0.heap s1.heap := by
    have z := I1.base
    rw [hex] at z
    exact z
  obtain ⟨o, ho, fd, hfd⟩ := hob
  have of1 := b1.keep f o ho hn hnf (fun z => nomatch (show f ∈ ([] : List Addr) from z))
  obtain ⟨oc, od, odt, osl⟩ := o
  dsimp only at hfd
  subst hfd
  refine PySem.W.callWith_F0 ⟨_, _, _, _, of1⟩ ?_
  refine wpAny_call (codeAny_mono (ac.2.2.2 X.A X.stack s1 H1 Q _ hr I1.env0 (un_chain un b1 hfr) hc ht) fun r s' hq => ?_)
  cases r with
  | error e => exact tk e s' (XE.of_call I1 (fun _ _ _ z => z) hq)
  | ok fl =>
    cases fl with
    | ret u => exact I1.after hq
    | next => exact False.elim hq
    | brk => exact False.elim hq
    | cont => exact False.elim hq
/-- g(.., the value, ..), in a def that was handed it -/
theorem pe_callHF {x : Str} {ps : List Str} {sp : TL → Addr → Sp} {e : Expr} {es : List Expr} {t : TA} (h : HF X.prog X.w X.K X.mg X.base x k0 k ps sp) (gd : X.A.guards = some []) (ac : Act X.prog X.w X.K X.mg X.base k0 fs0 s0 H0 f c' q tl) (un : Un fs0 [] H0 X.H_0 s0.heap X.s_0.heap)
    (hfr : ∀ b ∈ X.fs, b ∈ fs0 ∨ s0.heap.get? b = none) (hex : X.ex = []) (hst : X.stack = X.env :: X.outer) (hfm : X.env.frame = some X.env.locals) (hr : Room k X.A) (hg : Gl X x) (ha : PA X (e :: es) t) (hdb : (x == ("__debug__" : Str)) = false := by decide)
    (he : starEach (e :: es) X.env = (false, eval e X.env) :: starEach es X.env := by rfl) (hpl : (backTo pos (starEach es X.env)).any (·.1) = false := by rfl) :
    PE X (.Call (.Name x p) (e :: es) [] pos) (fun σ H Q => t σ H fun vs H2 => H2 c' = some (CodeO c' q) ∧ sp tl f vs H2 Q E0) := by
  obtain ⟨g, fd, hm, hk, hb, len, run⟩ := h
  refine ⟨fun pins s σ H Q I h => wpAny_Call_Name_kw (ld_glob I hg hm ?_ hdb)⟩
  refine PySem.W.callWith_K (h₀ := X.base) I.ok.mod.kin hk (thn (ha.run pos pins s σ H _ I h) fun us s1 hh => ?_) he hpl
  obtain ⟨vs, H1, I1, r, hc, q1⟩ := hh
  have b1 : Un X.fs [] X.H_0 H1 X.s_0.heap s1.heap := by
    have z := I1.base
    rw [hex] at z
    exact z
  have hl : us.length = ps.length := r.length.symm.trans (len _ _ _ _ _ _ q1)
  have hfr2 : ∀ b ∈ frs X.stack, b ∈ fs0 ∨ s0.heap.get? b = none := fun b hb => by
    rw [hst] at hb
    obtain ⟨ev, hev, eb⟩ := List.mem_filterMap.mp hb
    rcases List.mem_cons.mp hev with rfl | hev
    · rw [hfm] at eb
      cases eb
      refine .inr ?_
      cases e0 : s0.heap.get? X.env.locals with
      | none => rfl
      | some o =>
        obtain ⟨o2, e2⟩ := un.there _ o e0 (fun z => by cases z)
        exact absurd (Nat.lt_of_lt_of_le (Heap.lt_size e2) I.ok.above) (Nat.lt_irrefl _)
    · exact hfr b (List.mem_filterMap.mpr ⟨ev, hev, eb⟩)
  have hb1 := hb s1 us I1.kIn (by simpa using hl)
  refine ⟨I1.kIn, wpAny_call (codeAny_mono (run X.A X.stack s1 H1 ⟨us, []⟩ us vs Q E0 gd hr I1.env0 (by simpa using hb1) r fs0 s0 H0 f c' _ tl ac (un_chain un b1 hfr) hfr2 hc q1) fun res s2 hq => ?_)⟩
  match res, hq with
  | .ok (.ret u), hq => exact I1.after hq
def tLamF (T : List (Addr × Str)) (q : Str) (sp : TL → Addr → Sp) (t : XK → TE) (ta : TA) : TE := fun σ H Q => Tabs T H ∧ ∀ (f c' : Addr) (H1 : Hp), ExtN H H1 → Tabs T H1 → H1 f = none → H1 c' = some (CodeO c' q) →
  ta σ H1 fun vs H2 => H2 c' = some (CodeO c' q) ∧ sp (fun E H' Q' => t E σ H' Q') f (.ref f :: vs) H2 Q E0
/-- g(lambda: body, ..) -/
theorem pe_lamF {T : List (Addr × Str)} {x : Str} {c P : Addr} {ps : List Str} {sp : TL → Addr → Sp} {params : Arguments} {body : Expr} {scope : Scope} {t : XK → TE} {es : List Expr} {ta : TA} (h : HF X.prog X.w X.K X.mg X.base x (k0 + 1) k ps sp) (gd : X.A.guards = some [])
    (hst : X.stack = X.env :: X.outer) (hfm : X.env.frame = some X.env.locals) (hr : Room k X.A) (hg : Gl X x) (TB : TabB X.base X.mg c P) (hcode : X.env.code = .ref c) (hmT : (P, X.env.qual ++ "<lambda>") ∈ T) (hu : ∀ p ∈ T, p.1 = P → p.2 = X.env.qual ++ "<lambda>")
    (L : LamS X.env.scope scope) (hdef : defaultsOf params X.env = ([], [])) (hbind : ∀ (q : Str) (cl : List (Str × Addr)) (pm cv ctv : Value), bindArgs (PySem.W.kla_fn "<lambda>" q params body scope cl pm cv ctv) ⟨[], []⟩ = pure [])
    (hbody : ∀ (A : Around) (outer : List Env) (s : Shared) (H : Hp) (E : XK) (f c' : Addr), Room k0 (A.deeper (lamEnv X scope s.heap.objs.size f c')) → PE (lamCx X A outer s H E scope f c') body (t E)) (ha : PA X es ta)
    (hdb : (x == ("__debug__" : Str)) = false := by decide) (he : starEach (.Lambda params body scope lpos :: es) X.env = (false, eval (.Lambda params body scope lpos) X.env) :: starEach es X.env := by rfl) (hpl : (backTo pos (starEach es X.env)).any (·.1) = false := by rfl) :
    PE X (.Call (.Name x p) (.Lambda params body scope lpos :: es) [] pos) (tLamF T (X.env.qual ++ "<lambda>") sp t ta) := by
  obtain ⟨g, fd, hm, hk, hb, len, run⟩ := h
  refine ⟨fun pins s σ H Q I h => wpAny_Call_Name_kw (ld_glob I hg hm ?_ hdb)⟩
  obtain ⟨hT, h⟩ := h
  refine PySem.W.callWith_K (h₀ := X.base) I.ok.mod.kin hk ?_ he hpl
  show wpAny _ _ (spliced ((false, eval (.Lambda params body scope lpos) X.env) :: backTo pos (starEach es X.env))) _ _ s
  refine Calls.spliced_cons (lam_make2 I TB hcode hmT hu hT hdef (L.has I.ok) fun f c' pm' ctv H1 s' I1 eN T1 hf hfn hfr hco => ?_)
  have inF : ∀ b, b = X.env.locals ∨ b ∈ X.fs → b ∈ frs X.stack := fun b hb => by
    rw [hst]
    rcases hb with rfl | hb
    · exact List.mem_filterMap.mpr ⟨X.env, List.mem_cons_self, hfm⟩
    · obtain ⟨ev, hev, eb⟩ := List.mem_filterMap.mp hb
      exact List.mem_filterMap.mpr ⟨ev, List.mem_cons_of_mem _ hev, eb⟩
  have I1p : Inv X ((f, PySem.W.kla_obj "<lambda>" (X.env.qual ++ "<lambda>") params body scope (cloFrom X.env.cells scope.names []) pm' c' ctv) :: pins) σ H1 s' :=
    ⟨I1.ok, I1.os, I1.bare, I1.base, I1.loc, I1.cell, I1.free, I1.freeC, fun q hq => by
      rcases List.mem_append.mp hq with hq | hq
      · exact I1.pin q (List.mem_append_left _ hq)
      · rcases List.mem_cons.mp hq with rfl | hq
        · exact ⟨hf, hfn, fun z => hfr (inF _ (.inl z)), fun z => hfr (inF _ (.inr z)), fun v z => by cases z⟩
        · exact I1.pin q (List.mem_append_right _ hq), I1.hok, I1.len⟩
  refine thn (ha.run pos _ s' σ H1 _ I1p (h f c' H1 eN T1 hfn hco)) fun us s2 ⟨vs, H2, I2p, r, hc2, q2⟩ => ?_
  obtain ⟨of2, nf2, _⟩ := I2p.pin (f, _) (List.mem_append_right _ List.mem_cons_self)
  have I2 : Inv X pins σ H2 s2 := ⟨I2p.ok, I2p.os, I2p.bare, I2p.base, I2p.loc, I2p.cell, I2p.free, I2p.freeC, fun q hq => I2p.pin q (by
    rcases List.mem_append.mp hq with hq | hq
    · exact List.mem_append_left _ hq
    · exact List.mem_append_right _ (List.mem_cons_of_mem _ hq)), I2p.hok, I2p.len⟩
  have ac := act_make (t := t) (k := k0) I2 L of2 nf2 hfr (hbind _ _ _ _ _) (fun A outer s H E hr2 => hbody A outer s H E f c' hr2)
  have r2 : Vals (.ref f :: vs) (.ref f :: us) := .cons rfl r
  have hl : (Value.ref f :: us).length = ps.length := r2.length.symm.trans (len _ _ _ _ _ _ q2)
  have hb2 := hb s2 (.ref f :: us) I2.kIn (by simpa using hl)
  refine ⟨I2.kIn, wpAny_call (codeAny_mono (run X.A X.stack s2 H2 ⟨.ref f :: us, []⟩ _ _ Q E0 gd hr I2.env0 (by simpa using hb2) r2 (frs X.stack) s2 H2 f c' _ _ ac (Un.kept fun _ _ e => e) (fun b hb => .inl hb) hc2 q2) fun res s3 hq => ?_)⟩
  match res, hq with
  | .ok (.ret u), hq => exact I2.after hq
end
/-! ### weaker ends -/
def clT (tl : TL) : TL := fun E H Q => ∃ (E1 : XK) (Q1 : VK), tl E1 H Q1 ∧ (∀ cls d H', E1 cls d H' → E cls d H') ∧ ∀ v H', Q1 v H' → Q v H'
theorem cr_mono {P : Program} {w : World} {outer : List Env} {H : Hp} {s s' : Shared} {Q Q' : VK} {E E' : XK} {r : Result} (h : CR (L2.CX P w) outer P w H s Q E r s') (hE : ∀ cls d H', E cls d H' → E' cls d H') (hQ : ∀ v H', Q v H' → Q' v H') : CR (L2.CX P w) outer P w H s Q' E' r s' := by
  cases r with
  | error e =>
    obtain ⟨a, B, H', cls, d, h1, h2, h3, h4, h5, h6, h7, h8⟩ := h
    exact ⟨a, B, H', cls, d, h1, h2, h3, h4, h5, h6, h7, hE _ _ _ h8⟩
  | ok fl =>
    cases fl with
    | ret u =>
      obtain ⟨v, H', h1, h2, h3, h4, h5, h6⟩ := h
      exact ⟨v, H', h1, h2, h3, h4, h5, hQ _ _ h6⟩
    | next => exact h
    | brk => exact h
    | cont => exact h
theorem Act.cl {P : Program} {w : World} {K : PySem.W.Frag} {mg : Str → Option Value} {base : Heap} {k : Nat} {fs0 : List Addr} {s0 : Shared} {H0 : Hp} {f c' : Addr} {q : Str} {tl : TL} (ac : Act P w K mg base k fs0 s0 H0 f c' q tl) : Act P w K mg base k fs0 s0 H0 f c' q (clT tl) := by
  obtain ⟨h1, h2, h3, h4⟩ := ac
  refine ⟨h1, h2, h3, fun A outer s1 HZ Q E hr e0 un hc ht => ?_⟩
  obtain ⟨E1, Q1, ht, hE, hQ⟩ := ht
  exact codeAny_mono (h4 A outer s1 HZ Q1 E1 hr e0 un hc ht) fun r s' z => cr_mono z hE hQ
end HL

namespace HL
open PySem PySem.Spec PyProof.Rows L2
/-! ### what stands below all: the statics, the table of modules -/
structure BaseOk (h : Heap) : Prop where
  st : ∃ o es ep, h.get? cStatics = some o ∧ o.data = .dict es ep ∧ PySem.W.lookIn "thirdparty.any" o = some none
  sy : ∃ o es ep, h.get? sysModules = some o ∧ o.data = .dict es ep
theorem BaseOk.keeps {h h' : Heap} (b : BaseOk h) (k : ∀ b o, h.get? b = some o → h'.get? b = some o) : BaseOk h' := by
  obtain ⟨⟨o1, es1, ep1, b1, b2, b3⟩, o2, es2, ep2, b4, b5⟩ := b
  exact ⟨⟨o1, es1, ep1, k _ _ b1, b2, b3⟩, o2, es2, ep2, k _ _ b4, b5⟩
def baseB (g : Addr → Option Obj) : Bool := (match g cStatics with
  | some ⟨a, b, .dict es ep, d⟩ => PySem.W.lookIn "thirdparty.any" ⟨a, b, .dict es ep, d⟩ == some none
  | _ => false) && (match g sysModules with
  | some ⟨_, _, .dict _ _, _⟩ => true
  | _ => false)
theorem baseB_ok {h : Heap} (e : baseB h.get? = true) : BaseOk h := by
  obtain ⟨e1, e2⟩ := He.ba e
  constructor
  · split at e1
    · rename_i a b es ep d q
      exact ⟨_, es, ep, q, rfl, beq_iff_eq.mp e1⟩
    · cases e1
  · split at e2
    · rename_i q
      exact ⟨_, _, _, q, rfl⟩
    · cases e2
abbrev AlS : Type := AlH × Bool
def obsS (n : Nat) (fa : List He.Fa) (ts : List He.Tab) (tf : List He.Defn) (ex : PySem.W.Frag → Bool) (fn : List DefA) (g : Addr → Option Obj) : AlS := (obsH n fa ts tf ex fn g, baseB g)
def hookS (n : Nat) (fa : List He.Fa) (ts : List He.Tab) (tf : List He.Defn) (ex : PySem.W.Frag → Bool) (fn : List DefA) : PySem.W.Hook where
  α := AlS
  obs := fun s => obsS n fa ts tf ex fn s.heap.get?
  val := fun w => (valH ts fn w, true)
  says := fun w h => BaseOk h ∧ ∃ K : PySem.W.Frag, K.In h ∧ SaysH fa ts tf ex fn w h K
  of := fun w s e => ⟨baseB_ok (congrArg (fun z : AlS => z.2) e), (hookH n fa ts tf ex fn).of w s (congrArg (fun z : AlS => z.1) e)⟩
  keeps := fun w h h' c k => ⟨c.1.keeps k, (hookH n fa ts tf ex fn).keeps w h h' c.2 k⟩
theorem obsS_eq {n : Nat} {fa : List He.Fa} {ts : List He.Tab} {tf : List He.Defn} {ex : PySem.W.Frag → Bool} {fn : List DefA} {g : Addr → Option Obj} {s : Shared} (h : ∀ a, g a = s.heap.get? a) : obsS n fa ts tf ex fn g = (hookS n fa ts tf ex fn).obs s := by
  rw [show g = s.heap.get? from funext h]
  rfl
theorem looks_opq {M : Model} {h : Heap} {C : Addr} (b : BaseOk h) : PySem.W.Looks M h (opaqueClassAbove (.ref C)) none := by
  obtain ⟨o, es, ep, e1, e3, e2⟩ := b.st
  obtain ⟨oc, od, odt, osl⟩ := o
  dsimp only at e3
  subst e3
  refine PySem.W.looks_opaque (K := [(cStatics, ⟨oc, od, .dict es ep, osl⟩)]) (fun a u q => ?_) ?_
  · have q2 : ([(cStatics, ⟨oc, od, .dict es ep, osl⟩)] : List (Addr × Obj)).lookup a = some u := q
    by_cases z : a = cStatics
    · subst z
      simp at q2
      subst q2
      exact e1
    · rw [List.lookup_cons] at q2
      have z2 : (a == cStatics) = false := by simpa using z
      rw [z2] at q2
      cases q2
  · exact (show PySem.W.nsIn [(cStatics, ⟨oc, od, .dict es ep, osl⟩)] cStatics "thirdparty.any" = PySem.W.lookIn "thirdparty.any" ⟨oc, od, .dict es ep, osl⟩ from rfl).trans e2
theorem lawS {P : Program} {w : World} {K : PySem.W.Frag} {mg mb : Str → Option Value} {cx : CXT} {k : Nat} {fa a : Addr} {cs : List (Addr × Addr)} {fd : FuncData} {x : Str} {sp : Sp} {s : Shared} {us : List Value} {ns : List Int}
    (bo : BaseOk s.heap) (KX : K.In s.heap) (gl : s.heap.Ns mainGlobals mg) (bl : s.heap.Ns builtinsNs mb) (bb : ∀ x : Str, x ≠ "__name__" → mb x = bootBuiltins x) (lim : s.heap.NoLimit) (ge : s.gens = #[])
    (tE : ∀ p ∈ cs, s.heap.get? p.2 = some { cls := .none, data := .fields #[] }) (tN : ∀ p ∈ cs, K.lookup p.2 = none) (tC : ∀ p ∈ cs, PySem.W.CodeHd s.heap p.1 p.2)
    (bm : ∃ (m : Addr) (ob : Obj), mg "__builtins__" = some (.ref m) ∧ m ≠ builtinsNs ∧ s.heap.get? m = some ob ∧ ob.cls = .type "module" ∧ ob.dict = some builtinsNs ∧ ob.data = .plain)
    (ha : s.heap.get? a = some { cls := .type "list", data := .seq us.toArray }) (hi : IntsAre us ns) (hl : ns.length ≤ sizeLine) (hr : Room k callerA)
    (F : ∀ base : Heap, K.In base → base.Ns mainGlobals mg → (∀ p ∈ cs, LamX.TabB base mg p.1 p.2) → BaseOk base → FnG P w K mg base cx k fa fd [x] sp) (hb : ∀ (s : Shared) (u : Value), BindsTo s fd ⟨[u], []⟩ [(x, u)])
    (hsp : ∀ H : Hp, (∀ p ∈ cs, H p.2 = some (.tbl #[])) → SqL K H a (ns.map V.int) → sp [.ref a] H (fun v _ => v = .bl true) fun _ _ _ => False)
    (hcx : ∀ H e s', cx [] H s (fun _ _ _ => False) e s' → False) :
    codeAny (model P w) callerA (.call (.ref fa) ⟨[.ref a], []⟩) (fun r s' => r = .ok (.ret (.bool true)) ∧ OldK s.heap s'.heap ∧ s'.os = s.os ∧ AllBare s'.gens) s := by
  have tabOf : ∀ b, b ∈ cs.map (·.2) → ∃ p ∈ cs, p.2 = b := fun b hb => by simpa using hb
  have tG : ∀ b, b ∈ cs.map (·.2) → s.heap.get? b = some { cls := .none, data := .fields #[] } := fun b hb => by
    obtain ⟨p, hp, rfl⟩ := tabOf b hb
    exact tE p hp
  have nA : a ∉ cs.map (·.2) := fun hb => by
    have q := (tG a hb).symm.trans ha
    have q2 := congrArg Obj.data (Option.some.inj q)
    cases q2
  generalize hH : entryHp K (cs.map (·.2)) a { cls := .type "list", data := .seq us.toArray } (ns.map V.int) = H
  have cas : ∀ b, (b ∈ cs.map (·.2) ∧ H b = some (.tbl #[])) ∨ (b ∉ cs.map (·.2) ∧ b = a ∧ K.lookup a = none ∧ H b = some (.frz { cls := .type "list", data := .seq us.toArray } (.lst (ns.map V.int)))) ∨ (b ∉ cs.map (·.2) ∧ H b = none) := fun b => by
    rw [← hH]
    exact entry_cases b
  have hT : ∀ p ∈ cs, H p.2 = some (.tbl #[]) := fun p hp => by
    rw [← hH]
    exact entry_tab (List.mem_map.mpr ⟨p, hp, rfl⟩)
  have rv := vals_ints hi
  have sq : SqL K H a (ns.map V.int) := by
    cases q : K.lookup a with
    | some o =>
      have e := (KX a o q).symm.trans ha
      have eo := Option.some.inj e
      subst eo
      exact .inr ⟨_, us.toArray, _, q, rfl, rfl, rfl, by simpa [hi.length] using hl, by simpa using rv⟩
    | none =>
      rcases cas a with ⟨z, _⟩ | ⟨_, _, _, z⟩ | ⟨_, z⟩
      · exact absurd z nA
      · exact .inl (.inr ⟨_, z⟩)
      · rw [← hH] at z
        have z2 := (show entryHp K (cs.map (·.2)) a { cls := .type "list", data := .seq us.toArray } (ns.map V.int) a = _ from (if_neg nA).trans (if_pos ⟨rfl, q⟩)).symm.trans z
        cases z2
  have hok : HOk P w H s.heap := fun b u e => by
    rcases cas b with ⟨h1, h2⟩ | ⟨_, h1, _, h2⟩ | ⟨_, h2⟩
    · have e1 := Option.some.inj (e.symm.trans h2)
      subst e1
      exact tG b h1
    · have e1 := Option.some.inj (e.symm.trans h2)
      subst e1 h1
      exact ⟨ha, by simpa using hl, us, _, rv, ha⟩
    · rw [h2] at e
      cases e
  -- what is no empty record and no list isn't tracked
  have off : ∀ {b : Addr} {o : Obj}, s.heap.get? b = some o → o.data ≠ .fields #[] → (∀ v n, o.data ≠ .seq v n) → H b = none := fun {b o} e n1 n2 => by
    rcases cas b with ⟨h1, _⟩ | ⟨_, h1, _, _⟩ | ⟨_, h2⟩
    · rw [tG b h1] at e
      cases e
      exact absurd rfl n1
    · rw [h1, ha] at e
      cases e
      exact absurd rfl (n2 _ _)
    · exact h2
  have nsB : ∀ {b : Addr} {m : Str → Option Value}, s.heap.Ns b m → (hidT s.heap H).Ns b m := fun {b m} ⟨o, es, ep, e, d, r⟩ =>
    ⟨o, es, ep, hidT_get e (off e (by rw [d]; intro z; cases z) (by rw [d]; intro v n z; cases z)), d, r⟩
  have kB : K.In (hidT s.heap H) := fun b o e => hidT_get (KX b o e) (by
    rcases cas b with ⟨h1, _⟩ | ⟨_, h1, h3, _⟩ | ⟨_, h2⟩
    · obtain ⟨p, hp, rfl⟩ := tabOf b h1
      rw [tN p hp] at e
      cases e
    · rw [h1, h3] at e
      cases e
    · exact h2)
  have tb : ∀ p ∈ cs, LamX.TabB (hidT s.heap H) mg p.1 p.2 := fun p hp => by
    refine ⟨?_, ?_, fun z => ?_⟩
    · obtain ⟨o, vs, fi, tf, fl, tg, inF, tx, tt, e1, r1, r2, r3, r⟩ := tC p hp
      refine ⟨o, vs, fi, tf, fl, tg, inF, tx, tt, hidT_get e1 (off e1 (fun z => ?_) fun v n z => ?_), r1, r2, r3, r⟩
      · rw [r2] at z
        cases z
        simp at r3
      · rw [r2] at z
        cases z
    · obtain ⟨m, ob, b1, b2, b3, b4, b5, b6⟩ := bm
      refine ⟨m, ob, b1, b2, fun q => ?_, fun q => ?_, hidT_get b3 (off b3 (by rw [b6]; intro z; cases z) (by rw [b6]; intro v n z; cases z)), b4, b5, b6⟩
      · obtain ⟨o, es, ep, e, hd, _⟩ := gl
        rw [q, e] at b3
        cases b3
        rw [hd] at b6
        cases b6
      · rw [q, tE p hp] at b3
        cases b3
        cases b6
    · obtain ⟨o, es, ep, e, hd, _⟩ := gl
      rw [z, tE p hp] at e
      cases e
      cases hd
  have md : L2.Mod K mg (hidT s.heap H) := ⟨kB, nsB gl, ⟨mb, nsB bl, bb⟩, by
    obtain ⟨mc, h1, h2⟩ := lim
    exact ⟨mc, nsB h1, h2⟩⟩
  have e0 : Env0 P w K mg (hidT s.heap H) callerA [] s H := ⟨rfl, md, fun b o e => of_hidT e, Nat.le_of_eq (hidT_size _ _), trivial, fun b z => absurd (show b ∈ ([] : List Addr) from z) (by simp), hok, .of_eq ge⟩
  have bb2 : BaseOk (hidT s.heap H) := by
    obtain ⟨⟨o1, es1, ep1, b1, b2, b3⟩, o2, es2, ep2, b4, b5⟩ := bo
    exact ⟨⟨o1, es1, ep1, hidT_get b1 (off b1 (by rw [b2]; intro z; cases z) (by rw [b2]; intro v n z; cases z)), b2, b3⟩, o2, es2, ep2, hidT_get b4 (off b4 (by rw [b5]; intro z; cases z) (by rw [b5]; intro v n z; cases z)), b5⟩
  refine codeAny_mono ((F _ kB (nsB gl) tb bb2).grun callerA [] s H ⟨[.ref a], []⟩ [.ref a] [.ref a] _ _ rfl hr e0 (hb s (.ref a)) (.cons rfl .nil) (hsp H hT sq)) fun r s' h => ?_
  match r, h with
  | .error e, h => exact (hcx H e s' h).elim
  | .ok (.ret u), h =>
    obtain ⟨v, H', os, bare, un, hok', rr, q⟩ := h
    have q1 : v = .bl true := q
    subst q1
    cases rr
    have stays : ∀ b o, b ∉ cs.map (·.2) → s.heap.get? b = some o → s'.heap.get? b = some o := fun b o nb e => by
      rcases cas b with ⟨h1, _⟩ | ⟨_, h1, _, h2⟩ | ⟨_, h2⟩
      · exact absurd h1 nb
      · obtain ⟨e1, _⟩ := hok b _ h2
        obtain ⟨e2, _⟩ := hok' b _ (un.frzs b _ _ h2)
        rw [e] at e1
        cases e1
        exact e2
      · exact un.keep b o e h2 (fun z => absurd (show b ∈ ([] : List Addr) from z) (by simp)) (by simp)
    refine ⟨rfl, ⟨fun b o e => ?_, fun b o e => ?_⟩, os, bare⟩
    all_goals
      by_cases hb : b ∈ cs.map (·.2)
      · obtain ⟨p, hp, rfl⟩ := tabOf b hb
        obtain ⟨more, z⟩ := un.tbls p.2 #[] (hT p hp)
        have hm : s'.heap.get? p.2 = some { cls := .none, data := .fields (#[] ++ more) } := hok' p.2 _ z
        first
          | (rw [tE p hp] at e
             cases e
             exact .inr (.inl ⟨((tC p hp).tab (tE p hp)).isCodeTable, rfl, #[], more, rfl, hm⟩))
          | exact ⟨_, hm⟩
      · first
          | exact .inl (stays b o hb e)
          | exact ⟨o, stays b o hb e⟩
/-- what is to be said of a law at a world -/
def LawAtS (l : PySem.W.OpenLaw) (w : World) (K : PySem.W.Frag) (cx : CXT) (k n : Nat) (x : Str) (mg : Str → Option Value) (fa : Addr) (h : Heap) : Prop :=
  ∃ (fd : FuncData) (cs : List (Addr × Addr)) (sp : Sp), (∀ p ∈ cs, h.get? p.2 = some { cls := .none, data := .fields #[] }) ∧ (∀ p ∈ cs, K.lookup p.2 = none) ∧ (∀ p ∈ cs, PySem.W.CodeHd h p.1 p.2) ∧
    (∀ (s : Shared) (u : Value), BindsTo s fd ⟨[u], []⟩ [(x, u)]) ∧
    (∀ (H : Hp) (a : Addr) (ns : List Int), ns.length ≤ n → (∀ z ∈ ns, Builtin.Int.intBits z ≤ 1048576) → (∀ p ∈ cs, H p.2 = some (.tbl #[])) → SqL K H a (ns.map V.int) → sp [.ref a] H (fun v _ => v = .bl true) fun _ _ _ => False) ∧
    ∀ base : Heap, K.In base → base.Ns mainGlobals mg → (∀ p ∈ cs, LamX.TabB base mg p.1 p.2) → BaseOk base → FnG l.prog w K mg base cx k fa fd [x] sp
theorem walkS {l : PySem.W.OpenLaw} {n k : Nat} {q : Program} {loose : List Str} {XP : (Str → Option Value) → Heap → Prop} {YP : World → Heap → Prop} {d : DefRec} {cx : World → CXT} {x : Str}
    (hn : l.most = some n) (hn2 : n ≤ sizeLine) (hdf : d.params.defaults = []) (hr : Room k callerA)
    (F : ∀ (w : World) (mg : Str → Option Value) (fa : Addr) (h : Heap), YP w h → h.Ns mainGlobals mg → mg d.name = some (.ref fa) → BaseOk h ∧ ∃ K : PySem.W.Frag, K.In h ∧ LawAtS l w K (cx w) k n x mg fa h)
    (hcx : ∀ (w : World) (H : Hp) (s : Shared) (e : Value) (s' : Shared), cx w [] H s (fun _ _ _ => False) e s' → False) :
    PySem.W.WalkO q loose XP YP l.row.toRowW d [] (fun f vs => PySem.call f vs) :=
  Att.attach_callB hn hdf fun w s0 s1 mg mb fa o pm cd doc a vs ns G Y ho hd hcd hmg hobj hints hlen hbits hg => by
    obtain ⟨bo, K, KX, fd, cs, sp, h1, h2, h3, h4, h5, h6⟩ := F w mg fa _ Y G.T.g hmg
    exact lawS bo KX G.T.g G.T.b G.T.builtins G.T.nolimit hg h1 h2 h3 G.T.bmain hobj hints (Nat.le_trans hlen hn2) hr h6 h4 (fun H q1 q2 => h5 H a ns hlen hbits q1 q2) fun H e s' => hcx w H s1 e s'
end HL

namespace HL
open PySem PySem.Spec PyProof.Rows L2
/-! ### the package's own errors -/
def oexB (K : PySem.W.Frag) (C : Addr) : Bool := match K.lookup C with
  | some ⟨c0, _, .cls m, z⟩ => c0 == .type "type" && ((match m.mro with
    | .ref D :: r => D == C && PySem.HandSPX.refsVE r
    | _ => false) && ((match z.toList with
    | [_, _, _, _, some (.builtin n), _] => n == "ValueError.__new__"
    | _ => false) && (!m.hasDel && m.hasDict)))
  | _ => false
theorem oexB_ok {K : PySem.W.Frag} {C : Addr} (h : oexB K C = true) : ∃ nm q N bs bm sn sub ab col dd k0 k1 k2 k3 k5, K.lookup C = some (excClassObj nm q C N bs bm true sn sub ab col dd k0 k1 k2 k3 k5 "ValueError.__new__") ∧ PySem.HandSPX.refsVE bm = true := by
  unfold oexB at h
  split at h
  · rename_i c0 d0 m z hl
    obtain ⟨h1, h⟩ := He.ba h
    obtain ⟨h2, h⟩ := He.ba h
    obtain ⟨h3, h⟩ := He.ba h
    obtain ⟨h4, h5⟩ := He.ba h
    obtain ⟨nm, bs, mro, ns, qn, hd, sn, sub, ab, col, del⟩ := m
    dsimp only at h2 h4 h5
    match mro, h2, hl with
    | .ref D :: r, h2, hl =>
      obtain ⟨g1, g2⟩ := He.ba h2
      cases beq_iff_eq.mp g1
      have e1 := beq_iff_eq.mp h1
      have e4 : del = false := by simpa using h4
      subst e1 e4 h5
      obtain ⟨z⟩ := z
      dsimp only at h3
      match z, h3, hl with
      | [k0, k1, k2, k3, some (.builtin n), k5], h3, hl =>
        cases beq_iff_eq.mp h3
        exact ⟨nm, qn, ns, bs, r, sn, sub, ab, col, d0, k0, k1, k2, k3, k5, hl, g2⟩
  · cases h
structure ErrC (K : PySem.W.Frag) (C : Addr) : Prop where
  ox : OexC K C
  ex : ExcC K C
  ini : ∃ f, PySem.W.findIn K (.ref C) "__init__" = some (some f)
def errB (K : PySem.W.Frag) (x : Str) : Bool := oexB K (He.ga K x) && (He.eqO (PySem.W.findIn K (.ref (He.ga K x)) "__setattr__") (some (some (.builtin "object.__setattr__"))) && (decide (PySem.W.subIn K (.ref (He.ga K x)) (.type "BaseException") = some true) &&
  (decide (PySem.W.typeIn K (.ref (He.ga K x)) = some (.type "type")) && (PySem.W.keepIn K (.ref (He.ga K x)) && (He.eqO (PySem.W.findIn K (.ref (He.ga K x)) "__getattribute__") (some (some (.builtin "BaseException.__getattribute__"))) &&
  (He.eqO (PySem.W.findIn K (.ref (He.ga K x)) "__getattr__") (some none) && (PySem.W.hasDictIn K (He.ga K x) && (He.eqO (PySem.W.findIn K (.ref (He.ga K x)) "__class__") (some (some (.builtin "object.__class__"))) &&
  (He.eqO (PySem.W.specialIn K (.builtin "object.__class__") "__get__") (some (some (.builtin "getset_descriptor.__get__"))) && (decide (PySem.W.takesIn K (.builtin "object.__class__") = some true) &&
  (decide (PySem.W.mroIn K (He.ga K x) (.type "object") = some true) && (PySem.W.findIn K (.ref (He.ga K x)) "__init__").any (·.isSome))))))))))))
theorem errB_ok {K : PySem.W.Frag} {x : Str} (h : errB K x = true) : ErrC K (He.ga K x) := by
  obtain ⟨a1, h⟩ := He.ba h
  obtain ⟨a2, h⟩ := He.ba h
  obtain ⟨a3, h⟩ := He.ba h
  obtain ⟨a4, h⟩ := He.ba h
  obtain ⟨a5, h⟩ := He.ba h
  obtain ⟨a6, h⟩ := He.ba h
  obtain ⟨a7, h⟩ := He.ba h
  obtain ⟨a8, h⟩ := He.ba h
  obtain ⟨a9, h⟩ := He.ba h
  obtain ⟨b1, h⟩ := He.ba h
  obtain ⟨b2, h⟩ := He.ba h
  obtain ⟨b3, b4⟩ := He.ba h
  refine ⟨⟨oexB_ok a1, He.eqO_ok a2, of_decide_eq_true a3, of_decide_eq_true a4, a5⟩, ⟨He.eqO_ok a6, He.eqO_ok a7, of_decide_eq_true a3, a8, He.eqO_ok a9, He.eqO_ok b1, of_decide_eq_true b2, of_decide_eq_true b3⟩, ?_⟩
  cases e : PySem.W.findIn K (.ref (He.ga K x)) "__init__" with
  | none => rw [e] at b4; cases b4
  | some o =>
    cases o with
    | none => rw [e] at b4; cases b4
    | some f => exact ⟨f, rfl⟩
/-- x.__init__ is ValueError's -/
def liB (K : PySem.W.Frag) (x : Str) : Bool := He.eqO (PySem.W.specialIn K (.ref (He.ga K x)) "__getattribute__") (some (some (.builtin "type.__getattribute__"))) && (decide (PySem.W.typeIn K (.ref (He.ga K x)) = some (.type "type")) &&
  (He.eqO (PySem.W.findIn K (.type "type") "__getattribute__") (some (some (.builtin "type.__getattribute__"))) && (decide (PySem.W.subIn K (.type "type") (.type "type") = some true) &&
  (match PySem.W.findCls K (.ref (He.ga K x)) (.type "type") "__init__" with
    | some (.val (.builtin n)) => n == "ValueError.__init__"
    | _ => false))))
section
variable {X : Cx} {o e : Expr} {es : List Expr} {to te : TE} {ta : TA} {x f : Str} {p p' p1 p2 pos : Pos}
/-- x.__init__(self, ..) -/
theorem pe_leinit {pl : Sem Bool} (hg : Gl X x) (hm : X.mg x = some (.ref (He.ga X.K x))) (bo : BaseOk X.base) (hl : liB X.K x = true) (ha : PA X (e :: es) ta) (hdb : (x == ("__debug__" : Str)) = false := by decide)
    (hc : eval (.Call (.Attribute (.Name x p1) "__init__" p2) (e :: es) [] pos) X.env = (do
      let ov ← eval (.Name x p1) X.env
      standAt p2.atName
      let (f, first) ← holding [ov] (getMethod ov "__init__" pl)
      callWith pos f first (backTo pos (starEach (e :: es) X.env)) (backToKw pos (keywordEach [] X.env))) := by rfl)
    (he : starEach (e :: es) X.env = (false, eval e X.env) :: starEach es X.env := by rfl) (hpl : (backTo pos (starEach es X.env)).any (·.1) = false := by rfl) :
    PE X (.Call (.Attribute (.Name x p1) "__init__" p2) (e :: es) [] pos) (tVeI X.K ta) := by
  obtain ⟨l1, hl⟩ := He.ba hl
  obtain ⟨l2, hl⟩ := He.ba hl
  obtain ⟨l5, hl⟩ := He.ba hl
  obtain ⟨l6, l3⟩ := He.ba hl
  have l4 : PySem.W.findCls X.K (.ref (He.ga X.K x)) (.type "type") "__init__" = some (.val (.builtin "ValueError.__init__")) := by
    split at l3
    · rename_i n q
      rw [q, beq_iff_eq.mp l3]
    · cases l3
  refine ⟨fun pins s σ H Q I h => PySem.W.methodCall_KW (ld_glob I hg hm ?_ hdb) hc⟩
  refine PySem.W.method_cls I.kIn (He.eqO_ok l1) (PySem.W.cls_open I.kIn (looks_opq (bo.keeps I.bk)) (PySem.W.looks_typeIn I.kIn (of_decide_eq_true l2)) (He.eqO_ok l5) (PySem.W.looks_hook I.kIn (r := none) rfl) (of_decide_eq_true l6) l4 (wpAny_pure (PySem.W.handed_on (by decide +kernel) ?_)))
  show wpAny _ _ (callWith pos (Value.builtin "ValueError.__init__") [] (backTo pos (starEach (e :: es) X.env)) []) _ _ _
  refine PyProof.Rows.callWith_method1 (thn (ha.run pos pins _ σ H _ (I.tok _) h) fun us s1 ⟨vs, H1, I1, r1, a, C, ws, ev, hlw, T, ea, q⟩ => ?_) he hpl
  subst ev
  cases r1 with
  | @cons _ u0 _ ur ra rr =>
    obtain rfl : u0 = Value.ref a := ra
    exact oinit_ok T I1 ea (by rw [← Paired.length rr, sizeLine_eq]; omega) fun s' J => ⟨.non, H1, J, rfl, q⟩
/-- isinstance(e, c) of a kept error -/
def rIsErr (K : PySem.W.Frag) : List V → Hp → VK → Prop := fun xs H Q => ∃ (a D : Addr) (d : Option Addr) (c : V) (cv : Value) (b : Bool), xs = [.ref a, c] ∧ H a = some (ErrO a (.ref D) d) ∧ (∀ z, d = some z → ∃ fs, H z = some (.xd fs)) ∧ ErrC K D ∧ (∀ u, RelV c u → u = cv) ∧ PySem.W.kitOne K (.ref D) cv = some b ∧ Q (.bl b) H
theorem err_inst {pins : List (Addr × Obj)} {σ : L2.St} {H : Hp} {s : Shared} {a D : Addr} {d : Option Addr} (I : Inv X pins σ H s) (ha : H a = some (ErrO a (.ref D) d)) (hd : ∀ z, d = some z → ∃ fs, H z = some (.xd fs)) : ∃ ox od, PySem.W.InstAt s.heap a ox D od := by
  obtain ⟨⟨oe, vs, h1, hz, h2⟩, _, _⟩ := I.hok a _ ha
  obtain ⟨oc, od, oda, osl⟩ := oe
  obtain ⟨z1, z2⟩ := hz
  dsimp only at z1 z2 h2
  subst z1 z2 h2
  cases od with
  | none => exact ⟨_, none, h1, rfl, rfl, trivial⟩
  | some z =>
    obtain ⟨fs, hz⟩ := hd z rfl
    obtain ⟨mA, hn, _⟩ := (show ObjOk X.prog X.w H s.heap z (.xd fs) from I.hok z _ hz)
    obtain ⟨ob, ho, _⟩ := lookIn_ns hn
    exact ⟨_, some ob, h1, rfl, rfl, ho⟩
theorem call_isErr : CallR X (.builtin "isinstance") (rIsErr X.K) := by
  intro pins s σ H xs us Q I r h
  obtain ⟨a, D, d, c, cv, b, rfl, ha, hd, C, hcv, e, q⟩ := h
  cases r with
  | cons rx rr =>
    cases rr with
    | cons rt rr =>
      cases rr
      cases rx
      cases hcv _ rt
      obtain ⟨ox, od, J⟩ := err_inst I ha hd
      have hc : (PySem.W.clsIn X.K D).isSome = true := by
        have z := C.ex.hd
        unfold PySem.W.hasDictIn at z
        cases e : PySem.W.clsIn X.K D with
        | none => rw [e] at z; cases z
        | some _ => rfl
      exact PySem.W.kia_one (PySem.W.kitx_exc (ox := ox) (od := od) hc C.ex.hg C.ex.hk C.ex.hs C.ex.ha C.ex.hn C.ex.ht C.ex.hm) I.kIn J e (fun z => nomatch z) fun tk => ⟨.bl b, H, I.kept (t' := tk) fun _ _ z => z, rfl, q⟩
/-- e.f of a kept error -/
def tErrF (K : PySem.W.Frag) (f : Str) (te : TE) : TE := fun σ H Q => te σ H fun x H1 => ∃ (a D z : Addr) (fs : List (Str × V)) (v : V), x = .ref a ∧ H1 a = some (ErrO a (.ref D) (some z)) ∧ H1 z = some (.xd fs) ∧ ErrC K D ∧ PySem.W.findIn K (.ref D) f = some none ∧ fs.lookup f = some v ∧ Q v H1
theorem pe_errF (he : PE X e te) (hb : attributeBase e f X.env (eval e X.env) = eval e X.env := by rfl) : PE X (.Attribute e f pos) (tErrF X.K f te) := by
  refine ⟨fun pins s σ H Q I h => attr_of hb (thn (he.run pins s σ H _ I h) fun u s1 hh => ?_)⟩
  obtain ⟨x, H1, I1, rx, a, D, z, fs, v, rfl, ha, hz, C, hno, l, q⟩ := hh
  obtain rfl : u = Value.ref a := rx
  obtain ⟨⟨oe, vs, h1, hzc, h2⟩, _, _⟩ := I1.hok a _ ha
  obtain ⟨mA, hns, hr⟩ := (show ObjOk X.prog X.w H1 s1.heap z (.xd fs) from I1.hok z _ hz)
  obtain ⟨od, ho, hl⟩ := lookIn_ns hns
  obtain ⟨u, hu, ru⟩ := RelO.some_of (v := v) (o := mA f) (by rw [← l]; exact hr f)
  have J : PySem.W.InstAt s1.heap a oe D (some od) := ⟨h1, hzc.1, by unfold PySem.W.notCls; rw [h2] <;> rfl, by rw [hzc.2]; exact ho⟩
  exact HandSPX.exc_get I1.kIn J C.ex.hg C.ex.hk C.ex.hs (PySem.W.findObj_own C.ex.hd hno rfl (by rw [hl, hu])) (handed_of ru) ⟨v, H1, I1.tok _, ru, q⟩
end
end HL

namespace HL
open PySem PySem.Spec PyProof.Rows L2
/-! ### f(k = v, ..): all arguments by name -/
def kPick {α : Type} (ix : List Nat) (ws : List α) : List α := ix.filterMap fun i => ws[i]?
theorem vals_kat {vs : List V} {us : List Value} (h : Vals vs us) : ∀ i : Nat, (vs[i]? = none ∧ us[i]? = none) ∨ ∃ v u, vs[i]? = some v ∧ us[i]? = some u ∧ RelV v u := by
  induction h with
  | nil => intro i; exact .inl ⟨rfl, rfl⟩
  | cons r rs ih =>
    intro i
    cases i with
    | zero => exact .inr ⟨_, _, rfl, rfl, r⟩
    | succ j => exact ih j
theorem vals_kPick {vs : List V} {us : List Value} (h : Vals vs us) : ∀ ix : List Nat, Vals (kPick ix vs) (kPick ix us)
  | [] => .nil
  | i :: r => by
    unfold kPick
    rw [List.filterMap_cons, List.filterMap_cons]
    rcases vals_kat h i with ⟨e1, e2⟩ | ⟨v, u, e1, e2, rr⟩
    · rw [e1, e2]
      exact vals_kPick h r
    · rw [e1, e2]
      exact .cons rr (vals_kPick h r)
/-- a global def that is called by the names ks alone; ix: where each parameter stands among them -/
def HasKw (P : Program) (w : World) (K : PySem.W.Frag) (mg : Str → Option Value) (base : Heap) (x : Str) (k : Nat) (ps ks : List Str) (ix : List Nat) (sp : Sp) : Prop :=
  ∃ f fd, mg x = some (.ref f) ∧ PySem.W.keepIn K (.ref f) = true ∧ FnOk P w K mg base CX0 k f fd ps sp ∧ KBn K fd ps 0 ks (fun _ ws => kPick ix ws) (fun _ zs => kPick ix zs)
section
variable {P : Program} {w : World} {K : PySem.W.Frag} {mg : Str → Option Value} {base : Heap} {x : Str} {k : Nat} {ps : List Str} {sp : Sp}
theorem haskw_of {f : Addr} {fd : FuncData} {st : Stmt} {ks : List Str} {ix : List Nat} (g : mg x = some (.ref f)) (F : FunD K x x (defArgs st) (defBody st) (defScope st) [] [] f fd) (ok : FnOk P w K mg base CX0 k f fd ps sp)
    (hb : ∀ (kV doc pm : Value) (an : Option Addr) (cdv ct : Value) (ws : List Value), ws.length = ks.length → bindArgs (PySem.W.fnOf x x (defArgs st) (defBody st) (defScope st) .none kV doc pm an cdv ct) ⟨[], ks.zip ws⟩ = pure (ps.zip (kPick ix ws))) :
    HasKw P w K mg base x k ps ks ix sp := by
  refine ⟨f, fd, g, F.kp, ok, ?_⟩
  obtain ⟨oc, od, dV, kV, doc, pm, an, cdv, ct, osl, rfl, lk, hcd, hD, hK⟩ := F.ex
  rcases hD with ⟨_, rfl⟩ | ⟨e, _⟩
  · refine ⟨fun s us ws X l1 l2 => ?_, fun r1 r2 => vals_kPick r2 _⟩
    cases us with
    | nil => exact .of_eq (hb kV doc pm an cdv ct ws l2)
    | cons _ _ => cases l1
  · exact absurd rfl e
theorem has_fn {f : Addr} {fd : FuncData} {st : Stmt} (g : mg x = some (.ref f)) (F : FunD K x x (defArgs st) (defBody st) (defScope st) [] [] f fd) (ok : FnOk P w K mg base CX0 k f fd ps sp)
    (hb : ∀ (kV doc pm : Value) (an : Option Addr) (cdv ct : Value) (us : List Value), us.length = ps.length → bindArgs (PySem.W.fnOf x x (defArgs st) (defBody st) (defScope st) .none kV doc pm an cdv ct) ⟨us, []⟩ = pure (ps.zip us)) :
    Has P w K mg base x k ps sp := ⟨f, fd, g, F.kp, ok, F.bindsN hb⟩
end
section
variable {X : Cx} {k : Nat} {ps ks : List Str} {ix : List Nat} {sp : Sp} {x : Str} {p pos : Pos} {kws : List Keyword} {tk : TA}
theorem pe_hasKw (h : HasKw X.prog X.w X.K X.mg X.base x k ps ks ix sp) (hr : Room k X.A) (hg : Gl X x) (hkw : PK X kws tk)
    (hall : (backToKw pos (keywordEach kws X.env)).all (·.1.isSome) = true := by rfl) (hks : (backToKw pos (keywordEach kws X.env)).filterMap (·.1) = ks := by rfl)
    (hdb : (x == ("__debug__" : Str)) = false := by decide)
    (hpl : ((backTo pos (starEach [] X.env)).any (·.1) || (backToKw pos (keywordEach kws X.env)).any (·.1.isNone)) = false := by rfl) :
    PE X (.Call (.Name x p) [] kws pos) (fun σ H Q => tk σ H fun zs H2 => zs.length = ks.length ∧ sp (kPick ix zs) H2 Q E0) := by
  obtain ⟨f, fd, h1, h2, h3, hb⟩ := h
  refine ⟨fun pins s σ H Q I h => ?_⟩
  refine wpAny_Call_Name_kw (ld_glob I hg h1 ?_ hdb)
  refine PySem.W.callWith_KW0 (first := []) (h₀ := X.base) I.ok.mod.kin h2 hall ?_ hpl
  refine thn (hkw.run pos pins s σ H _ I h) fun ws s2 ⟨zs, H2, I2, rz, lz, q2⟩ => ⟨I2.kIn, ?_⟩
  rw [hks]
  exact run_fnN h3 hr hb pass0 I2 .nil rz rfl lz q2
end
end HL

namespace HL
open PySem PySem.Spec PyProof.Rows L2
/-! ### errors of the package, made and raised -/
/-- at a: an error of the class x, which keeps v as fld -/
def ErrAt (K : PySem.W.Frag) (H : Hp) (x fld : Str) (v : V) (a : Addr) : Prop := ∃ d, H a = some (ErrO a (.ref (He.ga K x)) (some d)) ∧ H d = some (.xd [(fld, v)])
theorem ErrAt.same {K : PySem.W.Frag} {H H' : Hp} {x fld : Str} {v : V} {a : Addr} (h : ErrAt K H x fld v a) (e : Same H H') : ErrAt K H' x fld v a := by
  obtain ⟨d, h1, h2⟩ := h
  exact ⟨d, e _ _ h1, e _ _ h2⟩
def spErr (K : PySem.W.Frag) (x fld : Str) : Sp := fun vs H Q _ => ∃ (a : Addr) (y : V), vs = [.ref a, y] ∧ H a = some (exo a (He.ga K x) none) ∧ ∀ d, H d = none → d ≠ a → Q .non (upd (upd H d (exd d [(fld, y)])) a (exo a (He.ga K x) (some d)))
/-- all that is asked of a class of errors -/
structure ErrK (P : Program) (w : World) (K : PySem.W.Frag) (mg : Str → Option Value) (base : Heap) (x fld : Str) : Prop where
  c : ErrC K (He.ga K x)
  g : mg x = some (.ref (He.ga K x))
  no : PySem.W.findIn K (.ref (He.ga K x)) fld = some none
  run : ∃ f fd, PySem.W.findIn K (.ref (He.ga K x)) "__init__" = some (some (.ref f)) ∧ PySem.W.typeIn K (.ref f) = some (.type "function") ∧ FnOk P w K mg base CX0 1 f fd ["self", fld] (spErr K x fld) ∧ Binds K fd ["self", fld] [] ∧ KBn K fd ["self", fld] 1 [fld] (fun us ws => us ++ ws) (fun vs zs => vs ++ zs)
theorem errk_of {P : Program} {w : World} {K : PySem.W.Frag} {mg : Str → Option Value} {base : Heap} {x fld : Str} {f : Addr} {fd : FuncData} (c : ErrC K (He.ga K x)) (g : mg x = some (.ref (He.ga K x))) (no : PySem.W.findIn K (.ref (He.ga K x)) fld = some none)
    (m : Meth K (He.ga K x) "__init__" f) (F : FnOk P w K mg base CX0 1 f fd ["self", fld] (spErr K x fld)) (b : Binds K fd ["self", fld] []) (kb : KBn K fd ["self", fld] 1 [fld] (fun us ws => us ++ ws) (fun vs zs => vs ++ zs)) : ErrK P w K mg base x fld :=
  ⟨c, g, no, f, fd, m.at_, beq_iff_eq.mp m.fn, F, b, kb⟩
theorem kb_err {K : PySem.W.Frag} {q fld : Str} {st : Stmt} {f : Addr} {fd : FuncData} (F : FunD K "__init__" q (defArgs st) (defBody st) (defScope st) [] [] f fd)
    (hb : ∀ (kV doc pm : Value) (an : Option Addr) (cdv ct u v : Value), bindArgs (PySem.W.fnOf "__init__" q (defArgs st) (defBody st) (defScope st) .none kV doc pm an cdv ct) ⟨[u], [(fld, v)]⟩ = pure [(Str.ofString "self", u), (fld, v)]) :
    KBn K fd ["self", fld] 1 [fld] (fun us ws => us ++ ws) (fun vs zs => vs ++ zs) := by
  obtain ⟨oc, od, dV, kV, doc, pm, an, cdv, ct, osl, rfl, lk, hcd, hD, hK⟩ := F.ex
  rcases hD with ⟨_, rfl⟩ | ⟨e, _⟩
  · exact ⟨fun s us ws X l1 l2 => match us, ws, l1, l2 with | [u], [v], _, _ => .of_eq (hb kV doc pm an cdv ct u v), fun r1 r2 => r1.append r2⟩
  · exact absurd rfl e
section
variable {X : Cx} {x fld : Str} {e : Expr} {ta : TA} {p pos : Pos}
def clA (t : TA) : TA := fun σ H Q => ∃ Q0 : List V → Hp → Prop, t σ H Q0 ∧ ∀ vs H1, Q0 vs H1 → Q vs H1
theorem pa_cl {es : List Expr} (h : PA X es ta) : PA X es (clA ta) := ⟨fun pos pins s σ H Q I ⟨Q0, h0, m⟩ => thn (h.run pos pins s σ H Q0 I h0) fun us s' ⟨vs, H1, I1, r, q⟩ => ⟨vs, H1, I1, r, m _ _ q⟩⟩
def tErr (K : PySem.W.Frag) (x fld : Str) (ta : TA) : L2.St → Hp → XK → Prop := fun σ H Q => ta σ H fun vs H1 => ∃ v, vs = [v] ∧ ∀ d, H1 d = none → Q (.ref (He.ga K x)) (some d) (upd H1 d (.xd [(fld, v)]))
theorem del_back {H : Hp} {a d : Addr} {o1 o2 o3 o4 : HO} (ha : H a = none) (hd : d ≠ a) : upd (del (upd (upd (upd H a o1) d o2) a o3) a) d o4 = upd H d o4 := by
  funext b
  by_cases h : b = d
  · rw [h, upd_same, upd_same]
  · rw [upd_ne h, upd_ne h]
    by_cases h2 : b = a
    · rw [h2, del_same, ha]
    · rw [del_ne h2, upd_ne h2, upd_ne h, upd_ne h2]
theorem pmk_err (k : ErrK X.prog X.w X.K X.mg X.base x fld) (hr : Room 2 X.A) (hg : Gl X x) (ha : PA X [e] ta) (hdb : (x == ("__debug__" : Str)) = false := by decide)
    (he : starEach [e] X.env = (false, eval e X.env) :: starEach [] X.env := by rfl) (hpl : (backTo pos (starEach [] X.env)).any (·.1) = false := by rfl) : PMk X (.Call (.Name x p) [e] [] pos) (tErr X.K x fld ta) := by
  obtain ⟨c, g, no, f, fd, h1, h2, F, b, _⟩ := k
  have m := pmk_oex (p := p) (pos := pos) (dvs := []) (ds := []) c.ox h1 h2 F hr b .nil (fun _ _ _ _ _ _ _ z => False.elim z) hg g (pa_cl ha) hdb he hpl
  intro pins s σ H Q I h
  refine m pins s σ H Q I ⟨_, h, ?_⟩
  rintro vs H1 ⟨v, rfl, q⟩
  refine ⟨by simp, fun a na => ⟨a, v, rfl, upd_same, fun d nd ne => ⟨rfl, d, _, upd_same, by rw [upd_ne ne, upd_same], ?_, ?_⟩⟩⟩
  · rw [upd_ne ne] at nd
    exact nd
  · rw [upd_ne ne] at nd
    rw [del_back na ne]
    exact q d nd
/-- raise x(e) -/
theorem ps_raiseE {W : WX} {rpos : Pos} (k : ErrK X.prog X.w X.K X.mg X.base x fld) (hc : X.calm = true) (tk : Takes X W) (hr : Room 2 X.A) (hg : Gl X x) (ha : PA X [e] ta) (hdb : (x == ("__debug__" : Str)) = false := by decide)
    (he : starEach [e] X.env = (false, eval e X.env) :: starEach [] X.env := by rfl) (hpl : (backTo pos (starEach [] X.env)).any (·.1) = false := by rfl) :
    PS X (.Raise (some (.Call (.Name x p) [e] [] pos)) none rpos) (fun _ σ H => tErr X.K x fld ta σ H fun cls d H' => W cls d σ H') := ps_raise hc tk (pmk_err k hr hg ha hdb he hpl)
/-- an error as a value -/
theorem pe_of_mk {t : L2.St → Hp → XK → Prop} (h : PMk X e t) : PE X e (fun σ H Q => t σ H fun cls d H' => ∀ a, H' a = none → Q (.ref a) (upd H' a (ErrO a cls d))) := by
  refine ⟨fun pins s σ H Q I q => thn (h pins s σ H _ I q) fun u s1 hu => ?_⟩
  obtain ⟨a, oe, vs, sI, H', cls, d, rfl, J, k, hne, ha, hz, hd, h1, na, os, ag, r, q⟩ := hu
  have J1 := J.laidN (t' := s1.toks) (o := ErrO a cls d) k hne na (errO_ok ha hz hd)
  exact ⟨.ref a, _, ⟨J1.ok, os.trans J.os, ag, J1.base, J1.loc, J1.cell, J1.free, J1.freeC, J1.pin, J1.hok, J1.len⟩, rfl, q a na⟩
theorem pe_err (k : ErrK X.prog X.w X.K X.mg X.base x fld) (hr : Room 2 X.A) (hg : Gl X x) (ha : PA X [e] ta) (hdb : (x == ("__debug__" : Str)) = false := by decide)
    (he : starEach [e] X.env = (false, eval e X.env) :: starEach [] X.env := by rfl) (hpl : (backTo pos (starEach [] X.env)).any (·.1) = false := by rfl) :
    PE X (.Call (.Name x p) [e] [] pos) (fun σ H Q => tErr X.K x fld ta σ H fun cls d H' => ∀ a, H' a = none → Q (.ref a) (upd H' a (ErrO a cls d))) := pe_of_mk (pmk_err k hr hg ha hdb he hpl)
theorem err_new {K : PySem.W.Frag} {H H2 : Hp} {a d : Addr} {v : V} {x fld : Str} (hd : H d = none) (ha : upd H d (.xd [(fld, v)]) a = none) (e : upd (upd H d (.xd [(fld, v)])) a (ErrO a (.ref (He.ga K x)) (some d)) = H2) : Same H H2 ∧ ErrAt K H2 x fld v a ∧ H a = none := by
  have ne : a ≠ d := fun z => by rw [z, upd_same] at ha; cases ha
  have na : H a = none := by rw [upd_ne ne] at ha; exact ha
  subst e
  exact ⟨same_upd (same_new hd) na, ⟨d, upd_same, by rw [upd_ne (Ne.symm ne), upd_same]⟩, na⟩
end
/-! ### defs that may raise -/
def HasX (P : Program) (w : World) (K : PySem.W.Frag) (mg : Str → Option Value) (base : Heap) (x : Str) (k : Nat) (ps : List Str) (sp : Sp) : Prop :=
  ∃ f fd, mg x = some (.ref f) ∧ PySem.W.keepIn K (.ref f) = true ∧ FnOk P w K mg base (L2.CX P w) k f fd ps sp ∧ Binds K fd ps []
section
variable {P : Program} {w : World} {K : PySem.W.Frag} {mg : Str → Option Value} {base : Heap} {x : Str} {k : Nat} {ps : List Str} {sp : Sp}
theorem okX {x q : Str} {st : Stmt} {dv : List V} {kw : List (Str × V)} {f : Addr} {fd : FuncData} {N ps : List Str} {k : Nat} {sp : Sp} (F : FnP K x q st dv kw f fd) (S : FnScope N ps (defScope st)) (len : ∀ vs H Q E, sp vs H Q E → vs.length = ps.length)
    (hb : ∀ (cdv : Value) (A : Around) (outer : List Env) (s : Shared) (H : Hp) (vs : List V) (Q : VK) (E : XK), Room k (A.deeper (envOfC q (defScope st) s.heap.objs.size f cdv)) → sp vs H Q E →
      ∃ t, PSs (cxOf (L2.CX P w) P w K mg base N q (defScope st) f cdv A outer s H E) (defBody st) t ∧ t { nx := fun _ H' => Q .non H', rt := Q } (start N vs) H) :
    FnOk P w K mg base (L2.CX P w) (k + 1) f fd ps sp := by
  obtain ⟨⟨oc, od, dV, kV, doc, pm, an, cdv, ct, osl, rfl, lk, hcd, _⟩, _⟩ := F
  refine ⟨len, fun A outer s H args us vs Q E hr e0 bt r h => ?_⟩
  exact LamX.run_ofS (N := N) lk hcd S hr e0 bt r (len _ _ _ _ h) fun hr' => hb cdv A outer s H vs Q E hr' h
theorem hasx_of {f : Addr} {st : Stmt} {N : List Str} (g : mg x = some (.ref f)) (F : ∃ fd, FunD K x x (defArgs st) (defBody st) (defScope st) [] [] f fd) (S : FnScope N ps (defScope st))
    (hb : ∀ (kV doc pm : Value) (an : Option Addr) (cdv ct : Value) (us : List Value), us.length = ps.length → bindArgs (PySem.W.fnOf x x (defArgs st) (defBody st) (defScope st) .none kV doc pm an cdv ct) ⟨us, []⟩ = pure (ps.zip us))
    (len : ∀ vs H Q E, sp vs H Q E → vs.length = ps.length)
    (body : ∀ (cdv : Value) (A : Around) (outer : List Env) (s : Shared) (H : Hp) (vs : List V) (Q : VK) (E : XK), Room k (A.deeper (envOfC x (defScope st) s.heap.objs.size f cdv)) → sp vs H Q E →
      ∃ t, PSs (cxOf (L2.CX P w) P w K mg base N x (defScope st) f cdv A outer s H E) (defBody st) t ∧ t { nx := fun _ H' => Q .non H', rt := Q } (start N vs) H) :
    HasX P w K mg base x (k + 1) ps sp := by
  obtain ⟨fd, F⟩ := F
  exact ⟨f, fd, g, F.kp, okX F S len body, F.bindsN hb⟩
end
section
variable {X : Cx} {k : Nat} {ps : List Str} {sp : Sp} {x : Str} {p pos : Pos} {e : Expr} {es : List Expr} {t : TA} {E : XK}
theorem pe_hasX (h : HasX X.prog X.w X.K X.mg X.base x k ps sp) (hx : Passes (L2.CX X.prog X.w) X E) (hr : Room k X.A) (hg : Gl X x) (ha : PA X (e :: es) t) (hdb : (x == ("__debug__" : Str)) = false := by decide)
    (he : starEach (e :: es) X.env = (false, eval e X.env) :: starEach es X.env := by rfl) (hpl : (backTo pos (starEach es X.env)).any (·.1) = false := by rfl) :
    PE X (.Call (.Name x p) (e :: es) [] pos) (tCall sp [] E t) := by
  obtain ⟨f, fd, h1, h2, h3, h4⟩ := h
  exact pe_call h3 hr hg h1 h2 h4 .nil hx ha hdb he hpl
theorem passF : Passes (L2.CX X.prog X.w) X (fun _ _ _ => False) := fun _ _ _ _ _ _ _ z => by
  obtain ⟨_, _, _, _, _, _, _, _, _, _, _, _, z⟩ := z
  exact z.elim
end
end HL

namespace HL
open PySem PySem.Spec PyProof.Rows L2 LamX
/-! ### tables of code objects beside the draw -/
theorem codeO_some {P : Program} {w : World} {S : HO → Prop} (fl : Flat S) {c a : Addr} {q : Str} (e : CodeO c q = some_ P w S a) (h : c = a) : False := by
  subst h
  have e2 : (fun h : Heap => ∃ (oc : Obj) (vs : Array Value) (t : Tok), h.get? c = some oc ∧ oc.data = .fields vs ∧ vs[1]? = some (.str q t)) = fun h => ∃ o, S o ∧ ObjOk P w noHp h c o := HO.ext.inj e
  let ob : Obj := { cls := .none, data := .fields #[.none, .str q 0] }
  let h0 : Heap := ⟨(Array.replicate c ob).push ob, {}⟩
  have hg : h0.get? c = some ob := by
    have z : ((Array.replicate c ob).push ob)[c]? = some ob := by
      rw [Array.getElem?_push]
      simp
    show (match ((Array.replicate c ob).push ob)[c]? with
      | some ⟨_, _, .freed, _⟩ => none
      | o => o) = some ob
    rw [z]
  have q1 : ∃ (oc : Obj) (vs : Array Value) (t : Tok), h0.get? c = some oc ∧ oc.data = .fields vs ∧ vs[1]? = some (.str q t) := ⟨ob, _, 0, hg, rfl, rfl⟩
  have q2 := (congrFun e2 h0).mp q1
  obtain ⟨o, so, ok⟩ := q2
  rcases fl o so with ⟨xs, rfl⟩ | ⟨kvs, rfl⟩
  · obtain ⟨_, its, n, _, z⟩ := ok
    have z2 := congrArg Obj.data (Option.some.inj (hg.symm.trans z))
    cases z2
  · obtain ⟨_, _, vs, _, o2, es, ep, z, _, z2, _⟩ := ok
    have z3 := (congrArg Obj.data (Option.some.inj (hg.symm.trans z))).trans z2
    cases z3
/-- the law's code object and its table, of a def of the text -/
theorem code_of {K : PySem.W.Frag} {x q : Str} {st : Stmt} {dv : List V} {kw : List (Str × V)} {fd : FuncData} {oc od osl} {dV kV doc pm cdv ct : Value} {an : Option Addr} (lk : K.lookup (He.ga K x) = some ⟨oc, od, .func (PySem.W.fnOf x q (defArgs st) (defBody st) (defScope st) dV kV doc pm an cdv ct), osl⟩)
    (hcd : PySem.W.codeIn K cdv q = true) : cdv = .ref (He.cT K (x, none)).1 := by
  obtain ⟨c, rfl⟩ := He.codeIn_ref hcd
  show Value.ref c = .ref (He.codeOf K (x, none))
  unfold He.codeOf He.fAd
  rw [lk]
theorem okGC {P : Program} {w : World} {K : PySem.W.Frag} {mg : Str → Option Value} {base : Heap} {x : Str} {st : Stmt} {dv : List V} {kw : List (Str × V)} {fd : FuncData} {N ps : List Str} {k : Nat} {sp : Sp} (F : FnP K x x st dv kw (He.ga K x) fd) (S : FnScope N ps (defScope st))
    (len : ∀ vs H Q E, sp vs H Q E → vs.length = ps.length)
    (hb : ∀ (A : Around) (outer : List Env) (s : Shared) (H : Hp) (vs : List V) (Q : VK) (E : XK), A.guards = some [] → Room k (A.deeper (envOfC x (defScope st) s.heap.objs.size (He.ga K x) (.ref (He.cT K (x, none)).1))) → sp vs H Q E →
      ∃ t, PSs (cxOf CX0 P w K mg base N x (defScope st) (He.ga K x) (.ref (He.cT K (x, none)).1) A outer s H E).nox (defBody st) t ∧ t { nx := fun _ H' => Q .non H', rt := Q } (start N vs) H) :
    FnG P w K mg base CX0 (k + 1) (He.ga K x) fd ps sp := by
  obtain ⟨⟨oc, od, dV, kV, doc, pm, an, cdv, ct, osl, rfl, lk, hcd, _⟩, _⟩ := F
  have ec := code_of (st := st) (dv := dv) (kw := kw) (fd := PySem.W.fnOf x x (defArgs st) (defBody st) (defScope st) dV kV doc pm an cdv ct) lk hcd
  subst ec
  refine ⟨len, fun A outer s H args us vs Q E g hr e0 bt r h => ?_⟩
  refine LamX.run_ofS (N := N) lk hcd S hr e0 bt r (len _ _ _ _ h) fun hr' => ?_
  obtain ⟨t, h1, h2⟩ := hb A outer s H vs Q E g hr' h
  exact ⟨t, h1.nox, h2⟩
end HL

namespace HL
open PySem PySem.Spec PyProof.Rows L2 PySem.HandSPX
/-! ### errors made by the name of their attribute -/
section
variable {prog : Program} {w : World} {M : Model} {A : Around} {E : Value → Shared → Prop} {R : Result → Shared → Prop} {h : Heap} {g : Array GenState} {d : Drawn} {t : Nat} {os : OsState}
variable {nm q : Str} {C N : Addr} {bs bm bmB : List Value} {hdct : Bool} {sn : List Str} {sub : List Value} {ab : Bool} {col : Option Bool} {dd : Option Addr} {k0 k1 k2 k3 k5 : Option Value} {B newId initId : String} {kw : List (Str × Value)}
theorem kwNew (F : ExcBaseFacts B newId initId bmB) (hT : ∀ X : String, bm.contains (.type X) = bmB.contains (.type X)) {Q : Unit → Shared → Prop}
    (hC : h.get? C = some (excClassObj nm q C N bs bm hdct sn sub ab col dd k0 k1 k2 k3 k5 newId)) (z : Q () ⟨h, g, d, t, os⟩) : wpAny M A (checkBuiltinCall newId ⟨[.ref C], kw⟩) Q E ⟨h, g, d, t, os⟩ := by
  have y : (Value.ref C :: bm).contains (.type B) = true := by rw [List.contains_cons, hT, F.hasB, Bool.or_true]
  have y2 := F.noStar
  simp only [checkBuiltinCall, F.newKind, F.newSplit, F.newRow]
  repeat (first | refine wpAny_loadPart_at hC ?_ | (refine wpAny_isSubtype_exc hC ?_; rw [y]) | refine wpAny_staticBase_exc hC ?_ | refine wpAny_madeBy_exc hC ?_ | simp only [bne_self_eq_false, Bool.false_eq_true, if_false] | wp_step)
  exact z
theorem kwMade (F : ExcBaseFacts B newId initId bmB) (hT : ∀ X : String, bm.contains (.type X) = bmB.contains (.type X)) (hC : h.get? C = some (excClassObj nm q C N bs bm hdct sn sub ab col dd k0 k1 k2 k3 k5 newId))
    (z : R (.ok (.ret (.ref (h.objs.size + 1)))) ⟨(h.push (PySem.W.kdv_tup [])).push (excO C h.objs.size), g, d, t, os⟩) :
    codeAny (model prog w) A (.builtin newId ⟨[.ref C], kw⟩) R ⟨h, g, d, t, os⟩ := by
  have y0 := F.ends
  have y1 : (Value.ref C :: bm).contains (.type B) = true := by rw [List.contains_cons, hT, F.hasB, Bool.or_true]
  have y2 : (Value.ref C :: bm).contains (.type "AttributeError") = false := by rw [List.contains_cons, hT, F.noAttr]; rfl
  have y3 : (Value.ref C :: bm).contains (.type "NameError") = false := by rw [List.contains_cons, hT, F.noName]; rfl
  refine codeAny_builtinAt F.entry ?_; unfold Builtin.«BaseException.__new__»; refine PySem.wpAt_bind ?_
  show PySem.wpAt _ _ _ (stack >>= _) _ _ _
  refine PySem.wpAt_bind (PySem.wpAt_stack fun p below => PySem.wpAt_of_wpAny ?_); wp_walk; refine PySem.wpAt_of_wpAny ?_
  rw [F.owner]
  repeat (first | with_reducible refine wpAny_madeHere_exc F.canon hC ?_ | with_reducible refine wpAny_loadPart_at hC ?_ | (with_reducible refine wpAny_isSubtype_exc hC ?_; first | rw [y1] | rw [y2] | rw [y3]) | wp_step)
  show R _ _
  rw [Heap.size_push]
  exact z
theorem kwCall (F : ExcBaseFacts B newId initId bmB) (hT : ∀ X : String, bm.contains (.type X) = bmB.contains (.type X)) {fI : Addr} {Q : PySem.Fin → Shared → Prop} (hC : h.get? C = some (excClassObj nm q C N bs bm hdct sn sub ab col dd k0 k1 k2 k3 k5 newId))
    (hi : PySem.W.Looks (model prog w) h (typeLookup (.ref C) "__init__") (some (.ref fI))) (hb : ∀ self, PySem.W.Looks (model prog w) h (bindSpecial (.ref fI) self) (.ref fI, [self]))
    (hq : codeAny (model prog w) A (.call (.ref fI) ⟨[.ref (h.objs.size + 1)], kw⟩)
      (fun r s' => match r with | .ok (.ret v) => v = .none ∧ Q (.done (.ret (.ref (h.objs.size + 1)))) s' | .ok _ => False | .error e => E e s') ⟨(h.push (PySem.W.kdv_tup [])).push (excO C h.objs.size), g, d, t, os⟩) :
    wpAny (model prog w) A (Builtin.«type.__call__» ⟨[.ref C], kw⟩) Q E ⟨h, g, d, t, os⟩ := by
  repeat (first | with_reducible refine wpAny_loadPart_at hC ?_ | with_reducible refine wpAny_madeBy_exc hC ?_ | wp_step)
  refine codeAny_call_builtin_code (Code.quiet_builtin _ F.quiet) (kwNew F hT hC (kwMade F hT hC ?_))
  show wpAny _ _ _ _ _ _
  have k : ∀ b o, h.get? b = some o → ((h.push (PySem.W.kdv_tup [])).push (excO C h.objs.size)).get? b = some o := fun b o e => Heap.get?_push_of_some _ (Heap.get?_push_of_some _ e)
  have c1 := k _ _ hC
  have c2 : ((h.push (PySem.W.kdv_tup [])).push (excO C h.objs.size)).get? (h.objs.size + 1) = some (excO C h.objs.size) := by heap_get
  have c3 : (Value.ref C :: bm).contains (.ref C) = true := by simp
  have i1 := hi.keeps k
  have b1 := (hb (.ref (h.objs.size + 1))).keeps k
  unfold isInstance
  repeat (first | with_reducible refine wpAny_loadPart_at c2 ?_ | (with_reducible refine wpAny_isSubtype_exc c1 ?_; rw [c3]) | wp_step)
  show wpAny _ _ (typeLookup (.ref C) _) _ _ _
  refine i1.at (wpAny_holding (wpAny_bind (b1.at (wpAny_bind (wpAny_call (codeAny_mono hq fun r s' z => ?_))))))
  rcases r with e | (v | _ | _ | _) <;> first | exact z | exact z.elim | skip
  obtain ⟨rfl, z⟩ := z
  first
    | exact wpAny_pure (wpAny_pure z)
    | (wp_walk; exact z)
theorem kwTop {Q : Unit → Shared → Prop} (hC : h.get? C = some (excClassObj nm q C N bs bm hdct sn sub ab col dd k0 k1 k2 k3 k5 newId)) (hq : Q () ⟨h, g, d, t, os⟩) : wpAny M A (checkBuiltinCall "type.__call__" ⟨[.ref C], kw⟩) Q E ⟨h, g, d, t, os⟩ := by
  have f3 := tc_sub
  have f4 : (⟨h, g, d, t, os⟩ : Shared).TypeIs (.ref C) "type" := ⟨_, hC, rfl⟩
  simp only [checkBuiltinCall, tc_kind, tc_split]
  repeat (any_goals (first | assumption | with_reducible refine wpAny_loadPart_at hC ?_ | with_reducible refine wpAny_onRaise ?_ | with_reducible refine wpAny_map ?_ | wp_step))
theorem kwOwn (F : ExcBaseFacts B newId initId bmB) (hT : ∀ X : String, bm.contains (.type X) = bmB.contains (.type X)) {fI : Addr} (hC : h.get? C = some (excClassObj nm q C N bs bm hdct sn sub ab col dd k0 k1 k2 k3 k5 newId))
    (hi : PySem.W.Looks (model prog w) h (typeLookup (.ref C) "__init__") (some (.ref fI))) (hb : ∀ self, PySem.W.Looks (model prog w) h (bindSpecial (.ref fI) self) (.ref fI, [self]))
    (hq : codeAny (model prog w) (A.under (.builtin "type.__call__" ⟨[.ref C], kw⟩)) (.call (.ref fI) ⟨[.ref (h.objs.size + 1)], kw⟩) (PySem.W.InitBack (h.objs.size + 1) R) ⟨(h.push (PySem.W.kdv_tup [])).push (excO C h.objs.size), g, d, t, os⟩) :
    codeAny (model prog w) A (.call (.ref C) ⟨[], kw⟩) R ⟨h, g, d, t, os⟩ := by
  have f1 := tc_lookup
  have f2 := tc_bind (.ref C)
  have f3 : (⟨h, g, d, t, os⟩ : Shared).TypeIs (.ref C) "type" := ⟨_, hC, rfl⟩
  refine codeAny_of_tree ?_
  show wpAny _ _ (callAny (.ref C) _) _ _ _
  repeat (any_goals (first | assumption | with_reducible refine wpAny_loadPart_at hC ?_ | wp_step))
  refine ⟨rfl, codeAny_call_builtin_at (Code.quiet_builtin _ (by decide +kernel)) entry_typeCall (kwTop hC (kwCall F hT hC hi hb (codeAny_mono hq fun r s' z => ?_)))⟩
  rcases r with e | (v | _ | _ | _) <;> exact z
end
section
variable {X : Cx} {x fld : Str} {kws : List Keyword} {tk : TA} {p pos : Pos}
theorem pk_cl (h : PK X kws tk) : PK X kws (clA tk) := ⟨fun pos pins s σ H Q I ⟨Q0, h0, m⟩ => thn (h.run pos pins s σ H Q0 I h0) fun us s' ⟨vs, H1, I1, r, q⟩ => ⟨vs, H1, I1, r, m _ _ q⟩⟩
/-- x(fld = e) -/
theorem pmk_errK (c : ErrC X.K (He.ga X.K x)) (g : X.mg x = some (.ref (He.ga X.K x))) {f : Addr} {fd : FuncData} (h1 : PySem.W.findIn X.K (.ref (He.ga X.K x)) "__init__" = some (some (.ref f))) (h2 : PySem.W.typeIn X.K (.ref f) = some (.type "function"))
    (F : FnOk X.prog X.w X.K X.mg X.base CX0 1 f fd ["self", fld] (spErr X.K x fld)) (b : KBn X.K fd ["self", fld] 1 [fld] (fun us ws => us ++ ws) (fun vs zs => vs ++ zs)) (hr : Room 2 X.A) (hg : Gl X x) (hkw : PK X kws tk)
    (hall : (backToKw pos (keywordEach kws X.env)).all (·.1.isSome) = true := by rfl) (hks : (backToKw pos (keywordEach kws X.env)).filterMap (·.1) = [fld] := by rfl)
    (hdb : (x == ("__debug__" : Str)) = false := by decide) (hpl : ((backTo pos (starEach [] X.env)).any (·.1) || (backToKw pos (keywordEach kws X.env)).any (·.1.isNone)) = false := by rfl) :
    PMk X (.Call (.Name x p) [] kws pos) (tErr X.K x fld tk) := by
  intro pins s σ H Q I h
  obtain ⟨nm, q, N, bs, bm, sn, sub, ab, col, dd, k0, k1, k2, k3, k5, hC, hbm⟩ := c.ox.cls
  refine wpAny_Call_Name_kw (ld_glob I hg g ?_ hdb)
  refine PySem.W.callWith_KW0 (first := []) (h₀ := X.base) I.ok.mod.kin c.ox.kC hall (thn (hkw.run pos pins s σ H _ I h) fun ws s1 ⟨zs, H1, I1, rz, v, ev, q1⟩ => ⟨I1.kIn, ?_⟩) hpl
  subst ev
  rw [hks]
  obtain ⟨u, ew, rv⟩ := rz.one
  subst ew
  show wpAny _ _ (call (.ref (He.ga X.K x)) [] [(fld, u)]) _ _ _
  obtain ⟨hp, g1, dr, tk1, os⟩ := s1
  have hsz : hp.objs.size ≤ hp.objs.size + 1 := Nat.le_succ _
  have hn : H1 (hp.objs.size + 1) = none := I1.hok.fresh hsz
  have kk : ∀ b o, hp.get? b = some o → ((hp.push (PySem.W.kdv_tup [])).push (excO (He.ga X.K x) hp.objs.size)).get? b = some o := fun b o e => Heap.get?_push_of_some _ (Heap.get?_push_of_some _ e)
  have hget : ((hp.push (PySem.W.kdv_tup [])).push (excO (He.ga X.K x) hp.objs.size)).get? (hp.objs.size + 1) = some (excO (He.ga X.K x) hp.objs.size) := by heap_get
  have I2 : Inv X pins σ (upd H1 (hp.objs.size + 1) (exo (hp.objs.size + 1) (He.ga X.K x) none)) ⟨(hp.push (PySem.W.kdv_tup [])).push (excO (He.ga X.K x) hp.objs.size), g1, dr, tk1, os⟩ :=
    I1.laid (t' := tk1) (a := hp.objs.size + 1) (o := exo (hp.objs.size + 1) (He.ga X.K x) none) kk hsz (exo_ok hget)
  refine wpAny_call (kwOwn PySem.F.excBase_ValueError (fun Y => refsVE_contains Y bm hbm) (I1.kIn _ _ hC) (PySem.W.looks_findIn I1.kIn h1) (fun self => PySem.W.bind_fn I1.kIn self h2)
    (codeAny_mono (F.run _ X.stack _ _ ⟨[Value.ref (hp.objs.size + 1)], [(fld, u)]⟩ [Value.ref (hp.objs.size + 1), u] [.ref (hp.objs.size + 1), v]
      (fun w2 H2 => w2 = .non ∧ ∃ (d : Addr) (fs : List (Str × V)), H2 (hp.objs.size + 1) = some (exo (hp.objs.size + 1) (He.ga X.K x) (some d)) ∧ H2 d = some (exd d fs) ∧ H1 d = none ∧ Q (.ref (He.ga X.K x)) (some d) (upd (del H2 (hp.objs.size + 1)) d (.xd fs))) E0
      (hr.make (He.ga X.K x) [] [(fld, u)]) (I2.env0.make (He.ga X.K x) [] [(fld, u)]) (b.to _ [Value.ref (hp.objs.size + 1)] [u] I2.kIn rfl rfl) (.cons rfl (.cons rv .nil)) ?_) fun r s' hq' => ?_))
  · refine ⟨_, v, rfl, upd_same, fun d nd ne => ⟨rfl, d, _, upd_same, by rw [upd_ne ne, upd_same], ?_, ?_⟩⟩
    · rw [upd_ne ne] at nd
      exact nd
    · rw [upd_ne ne] at nd
      rw [del_back hn ne]
      exact q1 d nd
  · cases r with
    | error er => exact False.elim hq'
    | ok fl =>
      cases fl with
      | ret u2 =>
        obtain ⟨v2, H2, os2, bare2, un2, hok2, rv2, ev2, d, fs, ea, ed, hd1, q2⟩ := hq'
        subst ev2
        obtain ⟨hp2, g2, d2, t2, os'⟩ := s'
        exact ⟨rv2, mk_end (raises_own c.ox.exC c.ox.tyC) I1 hsz kk un2 hok2 os2 bare2 ea ed hd1 q2⟩
      | next => exact False.elim hq'
      | brk => exact False.elim hq'
      | cont => exact False.elim hq'
theorem pe_errK (k : ErrK X.prog X.w X.K X.mg X.base x fld) (hr : Room 2 X.A) (hg : Gl X x) (hkw : PK X kws tk)
    (hall : (backToKw pos (keywordEach kws X.env)).all (·.1.isSome) = true := by rfl) (hks : (backToKw pos (keywordEach kws X.env)).filterMap (·.1) = [fld] := by rfl)
    (hdb : (x == ("__debug__" : Str)) = false := by decide) (hpl : ((backTo pos (starEach [] X.env)).any (·.1) || (backToKw pos (keywordEach kws X.env)).any (·.1.isNone)) = false := by rfl) :
    PE X (.Call (.Name x p) [] kws pos) (fun σ H Q => tErr X.K x fld tk σ H fun cls d H' => ∀ a, H' a = none → Q (.ref a) (upd H' a (ErrO a cls d))) := by
  obtain ⟨c, g, no, f, fd, h1, h2, F, b, kb⟩ := k
  exact pe_of_mk (pmk_errK c g h1 h2 F kb hr hg hkw hall hks hdb hpl)
end
end HL

namespace HL
open PySem PySem.Spec PyProof.Rows L2
theorem ty_l {K : PySem.W.Frag} {H : Hp} {a : Addr} {xs : List V} (h : SqL K H a xs) : TyX K H (.ref a) (.type "list") := by
  rcases h with (h | ⟨o, h⟩) | ⟨o, its, n, h1, h2, _⟩
  · exact .base (.lst h)
  · exact .base (.frz h)
  · exact .kList h1 h2
theorem ty_t {K : PySem.W.Frag} {H : Hp} {a : Addr} {xs : List V} (h : SqT K H a xs) : TyX K H (.ref a) (.type "tuple") := by
  rcases h with (h | ⟨o, h⟩) | ⟨o, its, n, h1, h2, _⟩
  · exact .base (.tup h)
  · exact .fTuple h
  · exact .kTuple h1 h2
section
variable {K : PySem.W.Frag} {a : Addr} {xs : List V} {g : TG} {tt : TT} {te : TE} {vs : List Nat} {σ : L2.St} {H1 : Hp} {D : Addr} {Qd : Hp → Prop}
theorem take_succ' {α : Type} {xs : List α} {i : Nat} {x : α} (h : xs[i]? = some x) : xs.take (i + 1) = xs.take i ++ [x] := by
  rw [List.take_add_one, h]
  rfl
theorem acc_step {p : V → Bool} {f : V → V} {i : Nat} {x : V} (h : xs[i]? = some x) : ((xs.take (i + 1)).filter p).map f = if p x = true then ((xs.take i).filter p).map f ++ [f x] else ((xs.take i).filter p).map f := by
  rw [take_succ' h, List.filter_append, List.map_append]
  by_cases e : p x = true
  · simp [e]
  · simp [e]
theorem acc_len {p : V → Bool} {f : V → V} {i : Nat} {x : V} (h : xs[i]? = some x) : (((xs.take i).filter p).map f).length < xs.length := by
  have h1 : i < xs.length := (List.getElem?_eq_some_iff.mp h).1
  have h2 := List.length_filter_le p (xs.take i)
  rw [List.length_take] at h2
  rw [List.length_map]
  omega
/-- [f(x) for x in xs if p(x)] of a list, all of it leaving the heap as it is -/
theorem lcl_pure (p : V → Bool) (f : V → V) (hD : H1 D = none) (hl : SqL K H1 a xs) (hz : xs.length ≤ sizeLine)
    (hs : ∀ (i : Nat) (x : V) (H' : Hp) (Q' : VK) (R : Hp → Prop), xs[i]? = some x → Same H1 H' → (p x = true → Q' (f x) H') → (p x = false → R H') → g x (wipe σ vs) H' fun σ2 H2 => wipe σ2 vs = wipe σ vs ∧ tt σ2 H2 fun b H3 => if b = true then te σ2 H3 Q' else R H3)
    (hd : Qd (upd H1 D (.lst ((xs.filter p).map f)))) :
    ∃ W : Nat → Nat → Hp → Prop, (∃ m, W 0 m (upd H1 D (.lst []))) ∧ ∀ i m H, W i m H →
      ((Itl K a).stop i H ∧ Qd H) ∨ ((Itl K a).go i H ∧ ∃ Nx : Hp → Prop, (∀ H', Nx H' → ∃ m', m' < m ∧ W (i + 1) m' H') ∧ ∀ x H', (Itl K a).yld i H x H' → g x (wipe σ vs) H' fun σ2 H2 => wipe σ2 vs = wipe σ vs ∧ tt σ2 H2 fun b H3 =>
        if b = true then te σ2 H3 fun y H4 => ∃ acc, H4 D = some (.lst acc) ∧ acc.length < sizeLine ∧ Nx (upd H4 D (.lst (acc ++ [y]))) else Nx H3) := by
  refine lc_list (K := K) (a := a) (xs := xs) (fun i H' => H' = upd H1 D (.lst (((xs.take i).filter p).map f))) rfl ?_ ?_ ?_
  · rintro i H' _ rfl
    exact (same_new hD).seq hl
  · rintro i x H' hx rfl
    refine hs i x _ _ _ hx (same_new hD) (fun e => ?_) (fun e => ?_)
    · refine ⟨_, upd_same, Nat.lt_of_lt_of_le (acc_len hx) hz, ?_⟩
      rw [upd_upd, acc_step hx, if_pos e]
    · rw [acc_step hx, if_neg (by rw [e]; intro z; cases z)]
  · rintro H' rfl
    rw [List.take_length]
    exact hd
theorem lct_pure (p : V → Bool) (f : V → V) (hD : H1 D = none) (hl : SqT K H1 a xs) (hz : xs.length ≤ sizeLine)
    (hs : ∀ (i : Nat) (x : V) (H' : Hp) (Q' : VK) (R : Hp → Prop), xs[i]? = some x → Same H1 H' → (p x = true → Q' (f x) H') → (p x = false → R H') → g x (wipe σ vs) H' fun σ2 H2 => wipe σ2 vs = wipe σ vs ∧ tt σ2 H2 fun b H3 => if b = true then te σ2 H3 Q' else R H3)
    (hd : Qd (upd H1 D (.lst ((xs.filter p).map f)))) :
    ∃ W : Nat → Nat → Hp → Prop, (∃ m, W 0 m (upd H1 D (.lst []))) ∧ ∀ i m H, W i m H →
      ((Itt K a).stop i H ∧ Qd H) ∨ ((Itt K a).go i H ∧ ∃ Nx : Hp → Prop, (∀ H', Nx H' → ∃ m', m' < m ∧ W (i + 1) m' H') ∧ ∀ x H', (Itt K a).yld i H x H' → g x (wipe σ vs) H' fun σ2 H2 => wipe σ2 vs = wipe σ vs ∧ tt σ2 H2 fun b H3 =>
        if b = true then te σ2 H3 fun y H4 => ∃ acc, H4 D = some (.lst acc) ∧ acc.length < sizeLine ∧ Nx (upd H4 D (.lst (acc ++ [y]))) else Nx H3) := by
  refine lc_tup (K := K) (a := a) (xs := xs) (fun i H' => H' = upd H1 D (.lst (((xs.take i).filter p).map f))) rfl ?_ ?_ ?_
  · rintro i H' _ rfl
    exact same_t (same_new hD) hl
  · rintro i x H' hx rfl
    refine hs i x _ _ _ hx (same_new hD) (fun e => ?_) (fun e => ?_)
    · refine ⟨_, upd_same, Nat.lt_of_lt_of_le (acc_len hx) hz, ?_⟩
      rw [upd_upd, acc_step hx, if_pos e]
    · rw [acc_step hx, if_neg (by rw [e]; intro z; cases z)]
  · rintro H' rfl
    rw [List.take_length]
    exact hd
theorem filter_yes {xs : List V} : xs.filter (fun _ => true) = xs := List.filter_eq_self.mpr fun _ _ => rfl
/-- a test that always holds -/
theorem yes2 {σ : L2.St} {H : Hp} {A B : Hp → Prop} (h : A H) : tYes σ H (fun b H3 => if b = true then A H3 else B H3) := yes_ h
end
end HL

namespace HL
open PySem PySem.Spec PyProof.Rows L2
/-! ### data of texts -/
theorem eqvAll_strs : ∀ xs ys : List Str, PyData.eqvAll (xs.map PyData.str) (ys.map PyData.str) = decide (xs = ys)
  | [], [] => rfl
  | [], _ :: _ => rfl
  | _ :: _, [] => rfl
  | x :: xs, y :: ys => by
    rw [List.map_cons, List.map_cons, PyData.eqvAll, PyData.eqv, eqvAll_strs xs ys]
    by_cases h : x = y
    · subst h
      simp
    · simp [h]
theorem depthAll_strs : ∀ xs : List Str, PyData.depthAll (xs.map PyData.str) = 0
  | [] => rfl
  | x :: xs => by
    rw [List.map_cons, PyData.depthAll, depthAll_strs xs]
    rfl
theorem canLay_strs : ∀ xs : List Str, (∀ z ∈ xs, PyData.strOk z = true) → PyData.canLayAll0 (xs.map PyData.str) = true
  | [], _ => rfl
  | x :: xs, h => by
    rw [List.map_cons, PyData.canLayAll0, canLay_strs xs fun z hz => h z (List.mem_cons_of_mem _ hz)]
    show (PyData.strOk x && true) = true
    rw [h x List.mem_cons_self]
    rfl
theorem shaped_tupS {xs : List Str} (h : ∀ z ∈ xs, PyData.strOk z = true) : SeqAt.shaped (.tuple (xs.map PyData.str)) = true := by
  unfold SeqAt.shaped
  rw [PyData.canLay0, canLay_strs xs h, PyData.depth, depthAll_strs]
  rfl
theorem shaped_lstS {xs : List Str} (h : ∀ z ∈ xs, PyData.strOk z = true) : SeqAt.shaped (.list (xs.map PyData.str)) = true := by
  unfold SeqAt.shaped
  rw [PyData.canLay0, canLay_strs xs h, PyData.depth, depthAll_strs]
  rfl
/-! ### how long a shown text is -/
theorem textFrom_le : ∀ (ts : List Str) (k : Nat) (acc : Str), (textFrom k acc ts).length ≤ acc.length + piled ts
  | [], k, acc => Nat.le_add_right _ _
  | t :: r, k, acc => by
    have q := textFrom_le r (k + 1) (acc ++ (if k > 0 then ", " else "" : String) ++ t)
    have e : (acc ++ (if k > 0 then ", " else "" : String) ++ t).length ≤ acc.length + 2 + t.length := by
      rw [strLen_append, strLen_append]
      split
      · exact Nat.le_refl _
      · show acc.length + 0 + t.length ≤ _
        omega
    have p : piled (t :: r) = t.length + 2 + piled r := by simp [piled]
    show (textFrom (k + 1) (acc ++ (if k > 0 then ", " else "" : String) ++ t) r).length ≤ _
    omega
theorem listText_le (ts : List Str) : (listText ts).length ≤ piled ts + 2 := by
  have q := textFrom_le ts 0 "["
  unfold listText
  rw [strLen_append]
  have e1 : ((("[" : String) : Str)).length = 1 := rfl
  have e2 : ((("]" : String) : Str)).length = 1 := rfl
  omega
theorem tupleText_le (ts : List Str) : (tupleText ts).length ≤ piled ts + 3 := by
  unfold tupleText
  rw [strLen_append, strLen_append]
  have e1 : ((("(" : String) : Str)).length = 1 := rfl
  have e3 : ((if ts.length == 1 then ",)" else ")" : String) : Str).length ≤ 2 := by
    split
    · exact Nat.le_refl _
    · exact Nat.le_succ _
  have e2 : (Str.join ", " ts).length ≤ piled ts := by
    by_cases h : ts = []
    · subst h
      exact Nat.zero_le _
    · have := join_length_add ts h
      omega
  omega
theorem piled_le {n : Nat} : ∀ ts : List Str, (∀ t ∈ ts, t.length ≤ n) → piled ts ≤ ts.length * (n + 2)
  | [], _ => by simp [piled]
  | t :: r, h => by
    have q := piled_le r fun x hx => h x (List.mem_cons_of_mem _ hx)
    have := h t List.mem_cons_self
    have p : piled (t :: r) = t.length + 2 + piled r := by simp [piled]
    rw [p, List.length_cons, Nat.add_mul]
    omega
theorem shownAll_map : ∀ ds : List PyData, PyData.shownAll ds = ds.map PyData.shown
  | [] => rfl
  | d :: ds => by
    rw [PyData.shownAll, shownAll_map ds]
    rfl
theorem showableAll_all : ∀ ds : List PyData, (∀ d ∈ ds, d.showable = true) → PyData.showableAll ds = true
  | [], _ => rfl
  | d :: ds, h => by
    rw [PyData.showableAll, h d List.mem_cons_self, showableAll_all ds fun x hx => h x (List.mem_cons_of_mem _ hx)]
    rfl
end HL

namespace HL
open PySem PySem.Spec PyProof.Rows L2
/-! ### set(xs) of ints and texts: the different ones, in the order in which they are met -/
section
variable {κ : Type} [DecidableEq κ]
def meet1 (acc : List κ) (k : κ) : List κ := if k ∈ acc then acc else acc ++ [k]
def met (ks : List κ) : List κ := ks.foldl meet1 []
theorem met_snoc (ks : List κ) (k : κ) : met (ks ++ [k]) = meet1 (met ks) k := by
  unfold met
  rw [List.foldl_append]
  rfl
theorem meet1_len (acc : List κ) (k : κ) : (meet1 acc k).length = if k ∈ acc then acc.length else acc.length + 1 := by
  unfold meet1
  split
  · rfl
  · rw [List.length_append, List.length_singleton]
theorem mem_meet1 {acc : List κ} {k j : κ} : j ∈ meet1 acc k ↔ j ∈ acc ∨ j = k := by
  unfold meet1
  split
  · rename_i h
    refine ⟨.inl, fun q => q.elim id fun q => by rw [q]; exact h⟩
  · rw [List.mem_append, List.mem_singleton]
theorem met_go (ks : List κ) : ∀ acc : List κ, acc.length ≤ (ks.foldl meet1 acc).length ∧ (ks.foldl meet1 acc).length ≤ acc.length + ks.length := by
  induction ks with
  | nil => intro acc; exact ⟨Nat.le_refl _, Nat.le_refl _⟩
  | cons k r ih =>
    intro acc
    have h1 := meet1_len acc k
    have h2 := ih (meet1 acc k)
    rw [List.foldl_cons, List.length_cons]
    split at h1 <;> omega
theorem met_len (ks : List κ) : (met ks).length ≤ ks.length := by
  have h := (met_go ks []).2
  rw [List.length_nil, Nat.zero_add] at h
  exact h
/-- as many as there are exactly if none stands there twice -/
theorem met_full (ks : List κ) : ∀ acc : List κ, (ks.foldl meet1 acc).length = acc.length + ks.length ↔ ks.Nodup ∧ ∀ k ∈ ks, k ∉ acc := by
  induction ks with
  | nil => intro acc; simp
  | cons k r ih =>
    intro acc
    rw [List.foldl_cons, List.length_cons, List.nodup_cons]
    by_cases hk : k ∈ acc
    · have e : meet1 acc k = acc := if_pos hk
      rw [e]
      refine ⟨fun q => ?_, fun q => absurd hk (q.2 k List.mem_cons_self)⟩
      have := (met_go r acc).2
      omega
    · have e : meet1 acc k = acc ++ [k] := if_neg hk
      rw [e]
      have h := ih (acc ++ [k])
      rw [List.length_append, List.length_singleton] at h
      have h2 : (r.foldl meet1 (acc ++ [k])).length = acc.length + (r.length + 1) ↔ (r.foldl meet1 (acc ++ [k])).length = acc.length + 1 + r.length := by omega
      rw [h2, h]
      constructor
      · rintro ⟨a, b⟩
        refine ⟨⟨fun m => b k m (by simp), a⟩, fun j hj => ?_⟩
        rcases List.mem_cons.mp hj with rfl | hj
        · exact hk
        · exact fun m => b j hj (List.mem_append_left _ m)
      · rintro ⟨⟨a, b⟩, c⟩
        refine ⟨b, fun j hj m => ?_⟩
        rcases List.mem_append.mp m with m | m
        · exact c j (List.mem_cons_of_mem _ hj) m
        · rw [List.mem_singleton.mp m] at hj
          exact a hj
theorem met_nodup (ks : List κ) : (met ks).length = ks.length ↔ ks.Nodup := by
  have h := met_full ks []
  rw [List.length_nil, Nat.zero_add] at h
  rw [show met ks = ks.foldl meet1 [] from rfl, h]
  simp
end
section
variable {prog : Program} {w : World} {A : Around} {R : Result → Shared → Prop} {it : Addr} {fp wr : List Addr} {G : Array GenState → Array GenState → Prop} {n : Nat} {Pv : Nat → Value → Prop} {St : Nat → Shared → Prop}
  {κ : Type} [DecidableEq κ] {knd : KeyKind prog w κ}
theorem set_moved {S : Addr} {F : κ → Bool} {m : Nat} {s s' : Shared} (h : s.heap.SetOf knd S F m) (k : ∀ o, s.heap.get? S = some o → s'.heap.get? S = some o) : s'.heap.SetOf knd S F m := by
  obtain ⟨o, es, ep, t, ho, r⟩ := h
  exact ⟨o, es, ep, t, k o ho, r⟩
theorem set_grow (W : WalksS prog w A.in1 it fp wr G n Pv St) (S : Addr) (hS : S ∉ fp) (ks : List κ) (hn : ks.length = n) (hb : n + 1 < scanBound)
    (hv : ∀ i v, Pv i v → ∃ k, ks[i]? = some k ∧ knd.is k v = true ∧ v.scannable = true) : ∀ (m i : Nat) (s : Shared), n - i = m → i ≤ n → St i s →
      s.heap.SetOf knd S (fun k => decide (k ∈ met (ks.take i))) (met (ks.take i)).length →
      (∀ s', Moved (S :: wr) G s s' → s'.heap.SetOf knd S (fun k => decide (k ∈ met ks)) (met ks).length → R (.ok (.ret .none)) s') →
      codeAny (model prog w) A (.builtin "set.update.loop" ⟨[.ref S, .ref it], []⟩) R s := by
  have nw : S ∉ wr := fun h => hS (W.sub _ h)
  have up : ∀ b ∈ wr, b ∈ S :: wr := fun b hb => List.mem_cons_of_mem _ hb
  intro m
  induction m with
  | zero =>
    intro i s hm hi st hs hR
    have ei : i = ks.length := by omega
    rw [ei, List.take_length] at hs
    refine codeAny_builtin PyProof.Rows.F.entry_set_update_loop ?_
    rw [Around.under_plainId PyProof.Rows.F.plain_set_update_loop _]
    refine wpAny_bind (W.done s _ _ (by rw [← hn, ← ei]; exact st) fun s' mv => ?_)
    exact wpAny_pure (hR s' (mv.mono up) (set_moved hs fun o e => mv.heap S o nw e))
  | succ m ih =>
    intro i s hm hi st hs hR
    have lt : i < n := by omega
    refine codeAny_builtin PyProof.Rows.F.entry_set_update_loop ?_
    rw [Around.under_plainId PyProof.Rows.F.plain_set_update_loop _]
    refine wpAny_bind (W.item i s _ _ lt st fun v s1 hp st1 mv => ?_)
    obtain ⟨k, hk, his, hsc⟩ := hv i v hp
    have tk : ks.take (i + 1) = ks.take i ++ [k] := by
      rw [List.take_succ, hk]
      rfl
    have hs1 := set_moved hs fun o e => mv.heap S o nw e
    refine wpAny_bind (wpAny_holding ?_)
    unfold setAdd
    refine wpAny_holding (wpAny_bind (knd.pyHash (k := k) his ?_))
    have le : (met (ks.take i)).length + 1 < scanBound := by
      have := met_len (ks.take i)
      rw [List.length_take] at this
      omega
    refine wpAny_setAddHashed_of (knd := knd) (s := { s1 with toks := s1.toks + 1 }) his hsc hs1 le fun h' sb hs2 => ?_
    have hs3 : h'.SetOf knd S (fun j => decide (j ∈ met (ks.take (i + 1)))) (met (ks.take (i + 1))).length := by
      rw [tk, met_snoc]
      have e1 : (fun j => decide (j ∈ meet1 (met (ks.take i)) k)) = fun j => decide (j ∈ met (ks.take i)) || decide (j = k) := by
        funext j
        rw [← Bool.decide_or]
        exact decide_eq_decide.mpr mem_meet1
      have e2 := meet1_len (met (ks.take i)) k
      rw [e1, e2]
      simpa using hs2
    refine wpAny_pure ⟨plainId_quiet PyProof.Rows.F.plain_set_update_loop _, ih (i + 1) _ (by omega) lt (W.frame _ s1 _ _ st1 (Nat.le_succ _) fun b hb o e => ?_) hs3 fun s2 mv2 hs4 => ?_⟩
    · rw [sb.2 b fun z : b = S => hS (by rw [← z]; exact hb)]
      exact e
    · refine hR s2 (Moved.trans W.gtrans ((mv.mono up).then_heap (Nat.le_succ _) fun b o hb e => ?_) mv2) hs4
      rw [sb.2 b fun z : b = S => hb (by rw [z]; exact List.mem_cons_self)]
      exact e
end

section
variable {prog : Program} {w : World} {A : Around} {E : Value → Shared → Prop} {s : Shared} {κ : Type} [DecidableEq κ] {knd : KeyKind prog w κ}
abbrev emptySet (led : Bool) : Obj := { cls := .type "set", dict := none, data := .set #[] 0 (.fresh 0 0 led) }
theorem empty_met {led : Bool} {h : Heap} {S : Addr} (e : h.get? S = some (emptySet led)) : h.SetOf knd S (fun k => decide (k ∈ met ([] : List κ))) (met ([] : List κ)).length :=
  PyProof.Rows.SetOf_congr ((PyProof.Rows.setObjOf_fresh (knd := knd) led).setOf e (by unfold scanBound; omega)) (fun _ => rfl) rfl
theorem call_set_seq {l : Addr} {items : Array Value} {ks : List κ} {Q : Value → Shared → Prop} (hh : A.handled = none) (hl : s.heap.IsList l items ∨ s.heap.IsTuple l items) (hn : ks.length = items.size) (hb : items.size + 1 < scanBound)
    (hv : ∀ (i : Nat) (v : Value), items[i]? = some v → ∃ k, ks[i]? = some k ∧ knd.is k v = true ∧ v.scannable = true)
    (h : ∀ (h' : Heap) (tk : Nat), h'.SetOf knd s.heap.objs.size (fun k => decide (k ∈ met ks)) (met ks).length → (∀ b o, s.heap.get? b = some o → h'.get? b = some o) → Q (.ref s.heap.objs.size) { s with heap := h', toks := tk }) :
    wpAny (model prog w) A (call (.type "set") [.ref l]) Q E s := by
  have lS : l < s.heap.objs.size := by
    rcases hl with ⟨o, e, _⟩ | ⟨o, e, _⟩
    all_goals exact Heap.lt_size e
  have mro := PySem.F.called_set.mro
  obtain ⟨c, tl, hmro⟩ := mro
  have hmade := PySem.F.called_set.made
  have hsub := PySem.F.called_set.sub
  refine wpAny_call (codeAny_of_tree ?_)
  show wpAny _ _ (callAny (.type "set") _) _ _ _
  refine wpAny_pure ⟨Code.quiet_builtin _ (by decide +kernel), codeAny_builtin PySem.F.entry_type_call ?_⟩
  rw [Around.under_plain (weight_type_call_type "set" [.ref l] []) rfl]
  have c1 := PySem.F.called_set.notType
  have c2 := PySem.F.called_set.canCreate
  have c3 := PySem.F.typeCall_set_1 (.ref l)
  repeat (any_goals (first | assumption | wp_step))
  refine codeAny_mono (code_set_new_1 (.ref l) (E := E) (Q₁ := fun obj s1 => ∃ led : Bool, obj = .ref s.heap.objs.size ∧ s1 = { s with heap := s.heap.push (emptySet led) }) fun led => ⟨led, rfl, rfl⟩) fun r s1 hr => ?_
  match r, hr with
  | .error e, hr => exact hr
  | .ok (.ret obj), hr =>
    obtain ⟨led, rfl, rfl⟩ := hr
    have gS : (s.heap.push (emptySet led)).get? s.heap.objs.size = some (emptySet led) := Heap.get?_push_size _ rfl
    have tS : Shared.TypeIs { s with heap := s.heap.push (emptySet led) } (.ref s.heap.objs.size) "set" := ⟨_, gS, rfl⟩
    have i1 := PySem.F.called_set.init.lookup
    have i2 := PySem.F.called_set.init.bind (.ref s.heap.objs.size)
    repeat (any_goals (first | assumption | wp_step))
    refine codeAny_mono (codeAny_call_builtin (R := wants (fun r s2 => r = .none ∧ ∃ h' tk, s2 = { s with heap := h', toks := tk } ∧ h'.SetOf knd s.heap.objs.size (fun k => decide (k ∈ met ks)) (met ks).length ∧
        ∀ b o, s.heap.get? b = some o → h'.get? b = some o) E) PySem.F.called_set.init.plain PySem.F.entry_set_init (check_set_init_1 tS ?_)) fun r2 s2 hr2 => ?_
    · have h3 : A.in1.in1.in1.handled = none := by simp [hh]
      have ne : l ≠ (s.heap.push (emptySet led)).objs.size := by
        rw [Heap.size_push]
        exact Nat.ne_of_lt (Nat.lt_succ_of_lt lS)
      have nS : s.heap.objs.size ∉ [(s.heap.push (emptySet led)).objs.size, l] := by
        rw [Heap.size_push]
        simp only [List.mem_cons, List.not_mem_nil, or_false, not_or]
        exact ⟨Nat.ne_of_lt (Nat.lt_succ_self _), Nat.ne_of_gt lS⟩
      have ends : ∀ (o : Obj) (s' : Shared), Moved (s.heap.objs.size :: [(s.heap.push (emptySet led)).objs.size]) (fun a b => b = a) { s with heap := (s.heap.push (emptySet led)).push o } s' →
          s'.heap.SetOf knd s.heap.objs.size (fun k => decide (k ∈ met ks)) (met ks).length →
          ∃ h' tk, s' = { s with heap := h', toks := tk } ∧ h'.SetOf knd s.heap.objs.size (fun k => decide (k ∈ met ks)) (met ks).length ∧ ∀ b o, s.heap.get? b = some o → h'.get? b = some o := fun ob s' mv hs => by
        obtain ⟨h', g', d', tk', os'⟩ := s'
        have e1 : g' = s.gens := mv.gens
        have e2 : d' = s.drawn := mv.drawn
        have e3 : os' = s.os := mv.os
        subst e1 e2 e3
        refine ⟨h', tk', rfl, hs, fun b o e => mv.heap b o ?_ (Heap.get?_push_of_some _ (Heap.get?_push_of_some _ e))⟩
        have q := Heap.lt_size e
        rw [Heap.size_push]
        simp only [List.mem_cons, List.not_mem_nil, or_false, not_or]
        exact ⟨Nat.ne_of_lt q, Nat.ne_of_lt (Nat.lt_succ_of_lt q)⟩
      rcases hl with ⟨⟨oc, od, dt, sl⟩, e, ec, nn, ed⟩ | ⟨⟨oc, od, dt, sl⟩, e, ec, nn, ed⟩
      · simp only at ec ed
        subst ec ed
        have e' : (s.heap.push (emptySet led)).get? l = some ⟨.type "list", od, .seq items nn, sl⟩ := Heap.get?_push_of_some _ e
        have q1 := PySem.F.sub_list_set
        have q2 := PySem.F.sub_list_frozenset
        have q3 : (Value.type "list" == Value.type "dict") = false := by decide
        have hl1 : (s.heap.push (emptySet led)).IsList l items := ⟨_, e', rfl, nn, rfl⟩
        unfold Builtin.«set.__init__» noKeywords Builtin.Frozenset.updateFrom
        generalize hPI : pyIter = PI
        wp_walk
        subst hPI
        refine wpAny_pyIter_list hl1 (wpAny_bind (wpAny_runValue ?_))
        refine set_grow (knd := knd) ((Walks.list h3 _ l ne items).toS) s.heap.objs.size nS ks hn hb hv (items.size - 0) 0 _ (by omega) (Nat.zero_le _) ⟨⟨_, Heap.get?_push_size _ rfl, rfl, rfl⟩, hl1.push _⟩ (empty_met (Heap.get?_push_of_some _ gS)) fun s' mv hs => ?_
        refine wpAny_pure ?_
        show wpAny _ _ (ret Value.none) _ _ _
        exact wpAny_pure ⟨rfl, ends _ s' mv hs⟩
      · simp only at ec ed
        subst ec ed
        have e' : (s.heap.push (emptySet led)).get? l = some ⟨.type "tuple", od, .seq items nn, sl⟩ := Heap.get?_push_of_some _ e
        have q1 := PySem.F.sub_tuple_set
        have q2 := PySem.F.sub_tuple_frozenset
        have q3 : (Value.type "tuple" == Value.type "dict") = false := by decide
        have hl1 : (s.heap.push (emptySet led)).IsTuple l items := ⟨_, e', rfl, nn, rfl⟩
        unfold Builtin.«set.__init__» noKeywords Builtin.Frozenset.updateFrom
        generalize hPI : pyIter = PI
        wp_walk
        subst hPI
        refine wpAny_pyIter_tuple hl1 (wpAny_bind (wpAny_runValue ?_))
        refine set_grow (knd := knd) ((Walks.tuple h3 _ l ne items).toS) s.heap.objs.size nS ks hn hb hv (items.size - 0) 0 _ (by omega) (Nat.zero_le _) ⟨⟨_, Heap.get?_push_size _ rfl, rfl, rfl⟩, hl1.push _⟩ (empty_met (Heap.get?_push_of_some _ gS)) fun s' mv hs => ?_
        refine wpAny_pure ?_
        show wpAny _ _ (ret Value.none) _ _ _
        exact wpAny_pure ⟨rfl, ends _ s' mv hs⟩
    · match r2, hr2 with
      | .error e, hr2 => exact hr2
      | .ok (.ret z), hr2 =>
        obtain ⟨rfl, h', tk, rfl, a, b⟩ := hr2
        repeat (any_goals (first | assumption | wp_step))
        exact h _ _ a b
end
/-- len(set(xs)): a list or a tuple of ints and texts -/
def tLenSetK (K : PySem.W.Frag) (ta : TE) : TE := fun σ H Q => ta σ H fun x H1 => ∃ (l : Addr) (ks : List Key), x = .ref l ∧ (SqL K H1 l (ks.map kV) ∨ SqT K H1 l (ks.map kV)) ∧ ks.length ≤ 4000 ∧ Q (.int ((met ks).length : Nat)) H1
theorem key_of {v : Value} {k : Key} (r : L2.RelV (kV k) v) : keyIs k v = true ∧ v.scannable = true := by
  cases k with
  | inl i =>
    obtain ⟨t, rfl⟩ := r
    exact ⟨keyIs_int i t, rfl⟩
  | inr x =>
    obtain ⟨t, rfl⟩ := r
    exact ⟨keyIs_str x t, rfl⟩
theorem pe_lenSetK {X : Cx} {a : Expr} {ta : TE} {p p2 q pos : Pos} (hg : Gl X "len") (hm : X.mg "len" = none) (hg2 : Gl X "set") (hm2 : X.mg "set" = none) (ha : PE X a ta) (hc : X.calm = true := by rfl)
    (na : starEach [a] X.env = (false, eval a X.env) :: starEach [] X.env := by rfl) : PE X (.Call (.Name "len" p) [.Call (.Name "set" p2) [a] [] q] [] pos) (tLenSetK X.K ta) := by
  refine ⟨fun pins s σ H Q I h => Call_ (ld_blt I hg hm boot_len (PyProof.Rows.callWith_builtin1 (PyProof.Rows.args_cons ?_ rfl) rfl rfl))⟩
  refine Call_ (ld_blt I hg2 hm2 boot_set (PyProof.Rows.callWith_type1 (PyProof.Rows.args_cons (thn (ha.run pins s σ H _ I h) fun v s1 hh => PyProof.Rows.args_nil ?_) na) na rfl))
  obtain ⟨x, H1, I1, r1, l, ks, rfl, hq, hz, q1⟩ := hh
  cases r1
  have key : ∃ its : List Value, Vals (ks.map kV) its ∧ (s1.heap.IsList l its.toArray ∨ s1.heap.IsTuple l its.toArray) := by
    rcases hq with hq | hq
    · obtain ⟨its, r, pl, _⟩ := I1.list hq
      exact ⟨its, r, .inl pl.isList⟩
    · obtain ⟨its, r, pl, _⟩ := I1.tuple hq
      exact ⟨its, r, .inr pl⟩
  obtain ⟨its, r, hl⟩ := key
  have hlen : ks.length = its.toArray.size := by
    rw [List.size_toArray, ← r.length, List.length_map]
  refine call_set_seq (knd := mixKind X.prog X.w) (ks := ks) (I1.ok.hd hc) hl hlen (by rw [← hlen]; unfold scanBound; omega) (fun i v hv => ?_) fun h' tk hS hk => PyProof.Rows.args_nil ?_
  · have hv2 : its[i]? = some v := by simpa using hv
    have lt : i < (ks.map kV).length := by
      rw [r.length]
      exact (List.getElem?_eq_some_iff.mp hv2).1
    obtain ⟨u, e1, e2⟩ := r.get (List.getElem?_eq_getElem lt)
    rw [hv2] at e1
    cases e1
    rw [List.length_map] at lt
    refine ⟨ks[i], List.getElem?_eq_getElem lt, ?_⟩
    rw [List.getElem_map] at e2
    exact key_of e2
  · obtain ⟨o, es, ep, t, ho, hex, hd, _, _, _, hf, hn⟩ := hS
    have I2 : Inv X pins σ H1 { s1 with heap := h', toks := tk } := I1.kept hk
    have ml := met_len ks
    exact call_len_set ho hex hd hf (by rw [hn]; omega) ⟨.int (met ks).length, H1, I2.tok _, ⟨_, by rw [hn]⟩, q1⟩
end HL

namespace HL
open PySem PySem.Spec PyProof.Rows L2
/-- d[k] = v as a target -/
def sDict : TSet := fun o i v H Q => ∃ (a : Addr) (H' : Hp), o = .ref a ∧ DPut H a i v H' ∧ Q H'
theorem set_dict {X : Cx} (hu : X.A.units + 1 < cLine) : PSet X sDict := by
  intro pins s σ H o i v ov iv u Q I ro ri rv h
  obtain ⟨a, H', rfl, g, q⟩ := h
  cases ro
  exact d_setItem hu I g ri rv fun s' I' => ⟨H', I', q⟩
theorem TyX.kp {K : PySem.W.Frag} {H H' : Hp} {v : V} {t : Value} (h : TyX K H v t) (e : Kp H H') : TyX K H' v t := by
  cases h with
  | base b =>
    cases b with
    | non => exact .base .non
    | bl x => exact .base (.bl x)
    | int x => exact .base (.int x)
    | str x => exact .base (.str x)
    | flt x => exact .base (.flt x)
    | lst q => exact .base (.lst (e.lst q))
    | frz q => exact .base (.frz (e.frz q))
    | tup q => exact .base (.tup (e.tup q))
    | dK q => exact .base (.dK (e.dK q))
    | dT q => exact .base (.dT (e _ _ (fun _ z => by cases z) q))
    | ins q a b c d f => exact .base (.ins (e.ins q) a b c d f)
  | byt b => exact .byt b
  | set q => exact .set (e _ _ (fun _ z => by cases z) q)
  | kList a b => exact .kList a b
  | kTuple a b => exact .kTuple a b
  | kDict a b => exact .kDict a b
  | fTuple q => exact .fTuple (e.frz q)
  | fDict q => exact .fDict (e.frz q)
/-- a new object: the heap by a name -/
theorem new_ {H : Hp} {p : Addr} {o : HO} (h : H p = none) : ∃ H1, upd H p o = H1 ∧ Same H H1 ∧ H1 p = some o := ⟨_, rfl, same_new h, upd_same⟩
theorem new_s {H H1 : Hp} {p : Addr} {o : HO} (e : upd H p o = H1) (h : H p = none) : Same H H1 := by
  rw [← e]
  exact same_new h
theorem new_f {H H1 : Hp} {p : Addr} {o : HO} (e : upd H p o = H1) : H1 p = some o := by
  rw [← e]
  exact upd_same
theorem same_none {H H' : Hp} {a : Addr} (e : Same H H') (h : H' a = none) : H a = none := by
  cases q : H a with
  | none => rfl
  | some o =>
    rw [e _ _ q] at h
    cases h
/-! relations by name, for use inside a comprehension -/
def rLenQ (K : PySem.W.Frag) : List V → Hp → VK → Prop := fun xs H Q => ∃ p ys, xs = [.ref p] ∧ (SqL K H p ys ∨ SqT K H p ys) ∧ Q (.int ys.length) H
def rListQ (K : PySem.W.Frag) : List V → Hp → VK → Prop := fun xs H Q => ∃ p ys, xs = [.ref p] ∧ (SqL K H p ys ∨ SqT K H p ys) ∧ ∀ l, H l = none → Q (.ref l) (upd H l (.lst ys))
def rTupQ (K : PySem.W.Frag) : List V → Hp → VK → Prop := fun xs H Q => ∃ p ys, xs = [.ref p] ∧ ((SqL K H p ys ∧ ∀ l, H l = none → Q (.ref l) (upd H l (.tup ys))) ∨ (SqT K H p ys ∧ Q (.ref p) H))
/-- the names of the built-in kinds -/
def kinds7 : List String := ["NoneType", "bool", "int", "str", "list", "tuple", "dict"]
end HL

namespace HL
open PySem PySem.Spec PyProof.Rows L2
/-! ### data of any kind, dicts too -/
def keyD : Key → PyData
  | .inl i => .int i
  | .inr x => .str x
mutual
inductive Dq (K : PySem.W.Frag) (H : Hp) : V → PyData → Prop
  | non : Dq K H .non .none
  | bl (b : Bool) : Dq K H (.bl b) (.bool b)
  | int (i : Int) : Dq K H (.int i) (.int i)
  | str (x : Str) : Dq K H (.str x) (.str x)
  | lst {a : Addr} {vs : List V} {ds : List PyData} : H a = some (.lst vs) → DqAll K H vs ds → Dq K H (.ref a) (.list ds)
  | tup {a : Addr} {vs : List V} {ds : List PyData} : SqT K H a vs → DqAll K H vs ds → Dq K H (.ref a) (.tuple ds)
  | dic {a : Addr} {kvs : List (Key × V)} {ds : List (PyData × PyData)} : H a = some (.dK kvs) → DqPairs K H kvs ds → Dq K H (.ref a) (.dict ds)
inductive DqAll (K : PySem.W.Frag) (H : Hp) : List V → List PyData → Prop
  | nil : DqAll K H [] []
  | cons {v : V} {d : PyData} {vs : List V} {ds : List PyData} : Dq K H v d → DqAll K H vs ds → DqAll K H (v :: vs) (d :: ds)
inductive DqPairs (K : PySem.W.Frag) (H : Hp) : List (Key × V) → List (PyData × PyData) → Prop
  | nil : DqPairs K H [] []
  | cons {k : Key} {v : V} {d : PyData} {vs : List (Key × V)} {ds : List (PyData × PyData)} : Dq K H v d → DqPairs K H vs ds → DqPairs K H ((k, v) :: vs) ((keyD k, d) :: ds)
end
mutual
theorem Dq.kp {K : PySem.W.Frag} {H H' : Hp} (e : Kp H H') : ∀ {v : V} {d : PyData}, Dq K H v d → Dq K H' v d
  | _, _, .non => .non
  | _, _, .bl b => .bl b
  | _, _, .int i => .int i
  | _, _, .str x => .str x
  | _, _, .lst h a => .lst (e.lst h) (DqAll.kp e a)
  | _, _, .tup h a => .tup (e.t h) (DqAll.kp e a)
  | _, _, .dic h a => .dic (e.dK h) (DqPairs.kp e a)
theorem DqAll.kp {K : PySem.W.Frag} {H H' : Hp} (e : Kp H H') : ∀ {vs : List V} {ds : List PyData}, DqAll K H vs ds → DqAll K H' vs ds
  | _, _, .nil => .nil
  | _, _, .cons h t => .cons (Dq.kp e h) (DqAll.kp e t)
theorem DqPairs.kp {K : PySem.W.Frag} {H H' : Hp} (e : Kp H H') : ∀ {vs : List (Key × V)} {ds : List (PyData × PyData)}, DqPairs K H vs ds → DqPairs K H' vs ds
  | _, _, .nil => .nil
  | _, _, .cons h t => .cons (Dq.kp e h) (DqPairs.kp e t)
end
theorem Dq.same {K : PySem.W.Frag} {H H' : Hp} {v : V} {d : PyData} (h : Dq K H v d) (e : Same H H') : Dq K H' v d := h.kp (.of e)
theorem DqAll.same {K : PySem.W.Frag} {H H' : Hp} {v : List V} {d : List PyData} (h : DqAll K H v d) (e : Same H H') : DqAll K H' v d := h.kp (.of e)
/-- all but open things and tables stays -/
def KpT (H H' : Hp) : Prop := ∀ b o, (∀ φ, o ≠ HO.ext φ) → (∀ ps, o ≠ HO.tbl ps) → H b = some o → H' b = some o
theorem KpT.l {H H' : Hp} {a : Addr} {xs : List V} (e : KpT H H') (h : H a = some (.lst xs)) : H' a = some (.lst xs) := e _ _ (fun _ z => by cases z) (fun _ z => by cases z) h
theorem KpT.d {H H' : Hp} {a : Addr} {xs : List (Key × V)} (e : KpT H H') (h : H a = some (.dK xs)) : H' a = some (.dK xs) := e _ _ (fun _ z => by cases z) (fun _ z => by cases z) h
theorem KpT.t {K : PySem.W.Frag} {H H' : Hp} {a : Addr} {xs : List V} (e : KpT H H') (h : SqT K H a xs) : SqT K H' a xs := by
  rcases h with (h | ⟨o, h⟩) | h
  · exact .inl (.inl (e _ _ (fun _ z => by cases z) (fun _ z => by cases z) h))
  · exact .inl (.inr ⟨o, e _ _ (fun _ z => by cases z) (fun _ z => by cases z) h⟩)
  · exact .inr h
mutual
theorem Dq.kpt {K : PySem.W.Frag} {H H' : Hp} (e : KpT H H') : ∀ {v : V} {d : PyData}, Dq K H v d → Dq K H' v d
  | _, _, .non => .non
  | _, _, .bl b => .bl b
  | _, _, .int i => .int i
  | _, _, .str x => .str x
  | _, _, .lst h a => .lst (e.l h) (DqAll.kpt e a)
  | _, _, .tup h a => .tup (e.t h) (DqAll.kpt e a)
  | _, _, .dic h a => .dic (e.d h) (DqPairs.kpt e a)
theorem DqAll.kpt {K : PySem.W.Frag} {H H' : Hp} (e : KpT H H') : ∀ {vs : List V} {ds : List PyData}, DqAll K H vs ds → DqAll K H' vs ds
  | _, _, .nil => .nil
  | _, _, .cons h t => .cons (Dq.kpt e h) (DqAll.kpt e t)
theorem DqPairs.kpt {K : PySem.W.Frag} {H H' : Hp} (e : KpT H H') : ∀ {vs : List (Key × V)} {ds : List (PyData × PyData)}, DqPairs K H vs ds → DqPairs K H' vs ds
  | _, _, .nil => .nil
  | _, _, .cons h t => .cons (Dq.kpt e h) (DqPairs.kpt e t)
end
def dtype : PyData → String
  | .none => "NoneType"
  | .bool _ => "bool"
  | .int _ => "int"
  | .str _ => "str"
  | .list _ => "list"
  | .tuple _ => "tuple"
  | .dict _ => "dict"
theorem Dq.ty {K : PySem.W.Frag} {H : Hp} {v : V} {d : PyData} (h : Dq K H v d) : TyX K H v (.type (dtype d)) := by
  cases h with
  | non => exact .base .non
  | bl b => exact .base (.bl b)
  | int i => exact .base (.int i)
  | str x => exact .base (.str x)
  | lst h _ => exact .base (.lst h)
  | tup h _ => exact ty_t h
  | dic h _ => exact .base (.dK h)
theorem dqa_len {K : PySem.W.Frag} {H : Hp} : ∀ {vs : List V} {ds : List PyData}, DqAll K H vs ds → vs.length = ds.length
  | _, _, .nil => rfl
  | _, _, .cons _ t => by rw [List.length_cons, List.length_cons, dqa_len t]
theorem dqa_at {K : PySem.W.Frag} {H : Hp} : ∀ {vs : List V} {ds : List PyData}, DqAll K H vs ds → ∀ {i : Nat} {v : V}, vs[i]? = some v → ∃ d, ds[i]? = some d ∧ Dq K H v d
  | _, _, .nil, _, _, e => by cases e
  | _, _, .cons h t, 0, _, e => by cases e; exact ⟨_, rfl, h⟩
  | _, _, .cons h t, i + 1, _, e => dqa_at t (i := i) e
theorem dqa_app {K : PySem.W.Frag} {H : Hp} : ∀ {vs : List V} {ds : List PyData} {ws : List V} {es : List PyData}, DqAll K H vs ds → DqAll K H ws es → DqAll K H (vs ++ ws) (ds ++ es)
  | _, _, _, _, .nil, s => s
  | _, _, _, _, .cons h t, s => .cons h (dqa_app t s)
theorem dqa_take {K : PySem.W.Frag} {H : Hp} : ∀ {vs : List V} {ds : List PyData} (n : Nat), DqAll K H vs ds → DqAll K H (vs.take n) (ds.take n)
  | _, _, 0, _ => .nil
  | _, _, _ + 1, .nil => .nil
  | _, _, n + 1, .cons h t => .cons h (dqa_take n t)
theorem dqa_drop {K : PySem.W.Frag} {H : Hp} : ∀ {vs : List V} {ds : List PyData} (n : Nat), DqAll K H vs ds → DqAll K H (vs.drop n) (ds.drop n)
  | _, _, 0, h => h
  | _, _, _ + 1, .nil => .nil
  | _, _, n + 1, .cons _ t => dqa_drop n t
mutual
theorem Dq.of {K : PySem.W.Frag} {H : Hp} : ∀ {v : V} {d : PyData}, Dp K H v d → (∀ a vs, SqL K H a vs → H a = some (.lst vs)) → Dq K H v d
  | _, _, .non, _ => .non
  | _, _, .bl b, _ => .bl b
  | _, _, .int i, _ => .int i
  | _, _, .str x, _ => .str x
  | _, _, .lst h a, t => .lst (t _ _ h) (DqAll.of a t)
  | _, _, .tup h a, t => .tup h (DqAll.of a t)
theorem DqAll.of {K : PySem.W.Frag} {H : Hp} : ∀ {vs : List V} {ds : List PyData}, DpAll K H vs ds → (∀ a vs, SqL K H a vs → H a = some (.lst vs)) → DqAll K H vs ds
  | _, _, .nil, _ => .nil
  | _, _, .cons h a, t => .cons (Dq.of h t) (DqAll.of a t)
end
mutual
theorem Dq.dp {K : PySem.W.Frag} {H : Hp} : ∀ {v : V} {d : PyData}, Dq K H v d → d.hasDict = false → Dp K H v d
  | _, _, .non, _ => .non
  | _, _, .bl b, _ => .bl b
  | _, _, .int i, _ => .int i
  | _, _, .str x, _ => .str x
  | _, _, .lst h a, t => .lst (SqL.of h) (DqAll.dp a (by simpa [PyData.hasDict] using t))
  | _, _, .tup h a, t => .tup h (DqAll.dp a (by simpa [PyData.hasDict] using t))
  | _, _, .dic h a, t => by simp [PyData.hasDict] at t
theorem DqAll.dp {K : PySem.W.Frag} {H : Hp} : ∀ {vs : List V} {ds : List PyData}, DqAll K H vs ds → PyData.hasDictAll ds = false → DpAll K H vs ds
  | _, _, .nil, _ => .nil
  | _, _, .cons h a, t => by
    simp only [PyData.hasDictAll, Bool.or_eq_false_iff] at t
    exact .cons (Dq.dp h t.1) (DqAll.dp a t.2)
end
section
variable {X : Cx} {pins : List (Addr × Obj)} {σ : L2.St} {H : Hp} {s : Shared}
theorem keys_read {h : Heap} : ∀ {es : List DictEntry} {vs : List (Key × Value)}, Pairs (mixKind X.prog X.w) es vs → ReadsAll h (es.map (·.key)) (vs.map fun p => keyD p.1) [] ∧ es.map (·.val) = vs.map (·.2)
  | _, _, .nil => ⟨.nil, rfl⟩
  | _, _, .cons (e := e) (kv := kv) (es := es) (kvs := kvs) h1 h2 t => by
    obtain ⟨a, b⟩ := keys_read (h := h) t
    refine ⟨?_, by rw [List.map_cons, List.map_cons, h2, b]⟩
    have q : Reads h e.key (keyD kv.1) [] := by
      rcases keyIs_shape (show keyIs kv.1 e.key = true from h1) with ⟨i, tk, e1, e2⟩ | ⟨x, tk, e1, e2⟩
      · rw [e1, e2]
        exact .int i tk
      · rw [e1, e2]
        exact .str x tk
    exact ReadsAll.cons (as := []) (bs := []) q a
theorem dqp_keys {K : PySem.W.Frag} {H : Hp} : ∀ {kvs : List (Key × V)} {ds : List (PyData × PyData)}, DqPairs K H kvs ds → ds.map (·.1) = kvs.map fun p => keyD p.1
  | _, _, .nil => rfl
  | _, _, .cons _ t => by rw [List.map_cons, List.map_cons, dqp_keys t]
theorem kv_split : ∀ {kvs : List (Key × V)} {vs : List (Key × Value)}, KV kvs vs → kvs.map (·.1) = vs.map (·.1) ∧ Vals (kvs.map (·.2)) (vs.map (·.2))
  | _, _, .nil => ⟨rfl, .nil⟩
  | _, _, .cons r t => by
    obtain ⟨a, b⟩ := kv_split t
    exact ⟨by rw [List.map_cons, List.map_cons, r.1, a], .cons r.2 b⟩
/-- what is tracked is not the table of modules -/
def NoSys (H : Hp) : Prop := H sysModules = none
theorem NoSys.ne {H : Hp} (h : NoSys H) {a : Addr} {o : HO} (e : H a = some o) : sysModules ≠ a := fun z => by
  rw [← z, show H sysModules = none from h] at e
  cases e
mutual
theorem Dq.reads (ns : NoSys H) (I : Inv X pins σ H s) : ∀ (d : PyData) (v : V) (u : Value), Dq X.K H v d → RelV v u → ∃ as, Reads s.heap u d as ∧ sysModules ∉ as
  | .none, _, _, h, r => by cases h; cases r; exact ⟨_, Reads.none, by simp⟩
  | .bool b, _, _, h, r => by cases h; cases r; exact ⟨_, Reads.bool b, by simp⟩
  | .int i, _, _, h, r => by cases h; obtain ⟨t, rfl⟩ := r; exact ⟨_, Reads.int i t, by simp⟩
  | .str x, _, _, h, r => by cases h; obtain ⟨t, rfl⟩ := r; exact ⟨_, Reads.str x t, by simp⟩
  | .list ds, _, _, h, r => by
    cases h with
    | lst hs ha =>
      cases r
      obtain ⟨its, rv, ⟨o, n, ho, hc, _, hd⟩, _⟩ := I.list (SqL.of hs)
      obtain ⟨as, hr, hn⟩ := DqAll.reads ns I ds _ its ha rv
      refine ⟨_, Reads.list ho hc hd (by simpa using hr), ?_⟩
      rw [List.mem_cons]
      exact fun z => z.elim (fun e => ns.ne hs e) hn
  | .tuple ds, _, _, h, r => by
    cases h with
    | tup hs ha =>
      cases r
      obtain ⟨its, rv, ⟨o, ho, hc, n, hd⟩, _⟩ := I.tuple hs
      obtain ⟨as, hr, hn⟩ := DqAll.reads ns I ds _ its ha rv
      exact ⟨_, Reads.tuple ho hc hd (by simpa using hr), hn⟩
  | .dict ds, _, _, h, r => by
    cases h with
    | dic hs ha =>
      cases r
      obtain ⟨_, _, vs, rel, o, es, ep, ho, hx, hd, _, hp, _⟩ := dk_of I.hok hs
      obtain ⟨q1, q2⟩ := keys_read (X := X) (h := s.heap) hp
      obtain ⟨e1, rv⟩ := kv_split rel
      obtain ⟨as, hr, hn⟩ := DqPairs.reads ns I ds _ _ ha rv
      refine ⟨_, Reads.dict ho hx.1 hd (as := []) ?_ (by rw [q2]; exact hr), ?_⟩
      · rw [dqp_keys ha]
        have e2 : (vs.map fun p => keyD p.1) = _ := (List.map_map (f := fun p : Key × Value => p.1) (g := keyD) (l := vs)).symm
        rw [e2, ← e1, List.map_map] at q1
        exact q1
      · rw [List.singleton_append, List.mem_cons]
        exact fun z => z.elim (fun e => ns.ne hs e) hn
theorem DqAll.reads (ns : NoSys H) (I : Inv X pins σ H s) : ∀ (ds : List PyData) (vs : List V) (us : List Value), DqAll X.K H vs ds → Vals vs us → ∃ as, ReadsAll s.heap us ds as ∧ sysModules ∉ as
  | [], _, _, h, r => by cases h; cases r; exact ⟨_, ReadsAll.nil, by simp⟩
  | d :: ds, _, _, h, r => by
    cases h with
    | cons h1 h2 =>
      cases r with
      | cons r1 r2 =>
        obtain ⟨as, q1, n1⟩ := Dq.reads ns I d _ _ h1 r1
        obtain ⟨bs, q2, n2⟩ := DqAll.reads ns I ds _ _ h2 r2
        exact ⟨_, ReadsAll.cons q1 q2, fun z => (List.mem_append.mp z).elim n1 n2⟩
theorem DqPairs.reads (ns : NoSys H) (I : Inv X pins σ H s) : ∀ (ds : List (PyData × PyData)) (vs : List (Key × V)) (us : List Value), DqPairs X.K H vs ds → Vals (vs.map (·.2)) us → ∃ as, ReadsAll s.heap us (ds.map (·.2)) as ∧ sysModules ∉ as
  | [], _, _, h, r => by cases h; cases r; exact ⟨_, ReadsAll.nil, by simp⟩
  | (k, d) :: ds, _, _, h, r => by
    cases h with
    | cons h1 h2 =>
      cases r with
      | cons r1 r2 =>
        obtain ⟨as, q1, n1⟩ := Dq.reads ns I d _ _ h1 r1
        obtain ⟨bs, q2, n2⟩ := DqPairs.reads ns I ds _ _ h2 r2
        exact ⟨_, ReadsAll.cons q1 q2, fun z => (List.mem_append.mp z).elim n1 n2⟩
end
/-- repr(x) of any data -/
def rReprQ (K : PySem.W.Frag) : List V → Hp → VK → Prop := fun xs H Q => ∃ x d, xs = [x] ∧ Dq K H x d ∧ d.showable = true ∧ d.depth ≤ 60 ∧ d.shown.length ≤ sizeLine ∧ Q (.str d.shown) H
theorem noSys (b : BaseOk X.base) (I : Inv X pins σ H s) : NoSys H := by
  obtain ⟨o, _, _, e, _⟩ := b.sy
  exact (I.bs _ _ e).2
theorem call_reprQ (gd : X.A.guards = some []) (hu : X.A.units + 64 < cLine) (hm : BaseOk X.base) : CallR X (.builtin "repr") (rReprQ X.K) := by
  intro pins s σ H xs us Q I r h
  obtain ⟨x, d, rfl, hd, hs, hdp, hz, q⟩ := h
  have ns := noSys hm I
  cases r with
  | cons r0 rn =>
    cases rn
    have deep : ∀ a : Addr, x = .ref a → wpAny (model X.prog X.w) X.A (call (.builtin "repr") [.ref a]) (EP X pins σ Q) X.xe s := fun a e => by
      subst e
      obtain ⟨as, rr, na⟩ := Dq.reads ns I _ _ (.ref a) hd rfl
      exact repr_of_reads' (h₀ := s.heap) rr hs (fun _ => na) gd (by omega) (fun _ _ e => e) (fun h' u tk hk => ⟨V.str (PyData.shown _), H, I.kept (t' := tk) hk, ⟨_, rfl⟩, q⟩) hz
    cases hd with
    | non => cases r0; exact PySem.P.repr_of_none ⟨V.str "None", H, I.tok _, ⟨_, rfl⟩, q⟩
    | bl b => cases r0; exact PySem.P.repr_of_bool ⟨V.str (if b then "True" else "False"), H, I.tok _, ⟨_, rfl⟩, q⟩
    | int i =>
      obtain ⟨t, rfl⟩ := r0
      exact PySem.P.repr_of_int (by simpa [PyData.showable] using hs) ⟨V.str (toString i), H, I.tok _, ⟨_, rfl⟩, q⟩
    | str z =>
      obtain ⟨t, rfl⟩ := r0
      exact PySem.P.repr_of_str ⟨V.str (reprText z), H, I.tok _, ⟨_, rfl⟩, q⟩ hz
    | lst h1 h2 => cases r0; exact deep _ rfl
    | tup h1 h2 => cases r0; exact deep _ rfl
    | dic h1 h2 => cases r0; exact deep _ rfl
end
end HL

namespace HL
open PySem PySem.Spec PyProof.Rows L2

def cls17 : List (Str × Str) := [("BadBook", "field"), ("BadPart", "field"), ("BadDepth", "number"), ("BadParts", "name"), ("NoPart", "name"), ("NoWant", "name"), ("Barred", "word"), ("NoScope", "scope"), ("Busy", "scope"), ("Waiting", "scope"), ("NoRequest", "request"), ("NoWork", "work"), ("BadDeed", "at"), ("BadFault", "word"), ("BadStand", "stand"), ("BadBorder", "border"), ("BadText", "line")]
/-- which error is of which class -/
def kitB (K : PySem.W.Frag) : Bool := cls17.all fun p => (cls17.all fun q => decide (PySem.W.kitOne K (.ref (He.ga K p.1)) (.ref (He.ga K q.1)) = some (decide (p.1 = q.1)))) &&
  (decide (PySem.W.kitOne K (.ref (He.ga K p.1)) (.ref (He.ga K "LifeError")) = some true) && decide (PySem.W.kitOne K (.ref (He.ga K p.1)) (.type "ValueError") = some true))

def top (i : Nat) : Stmt := PySem.Challenge.pw_heldlives_k01_errors_by_class.main.body.getD i (.Pass ⟨0, 0, 0, 0⟩)
abbrev s_BadBook_init : Stmt := inClass (top 2) 0
abbrev N_BadBook_init : List Str := ["self", "field"]
theorem sc_BadBook_init : FnScope N_BadBook_init ["self", "field"] (defScope s_BadBook_init) := ⟨rfl, rfl, rfl, by decide +kernel, rfl, by decide +kernel, by decide +kernel⟩
abbrev s_BadPart_init : Stmt := inClass (top 3) 0
abbrev N_BadPart_init : List Str := ["self", "field"]
theorem sc_BadPart_init : FnScope N_BadPart_init ["self", "field"] (defScope s_BadPart_init) := ⟨rfl, rfl, rfl, by decide +kernel, rfl, by decide +kernel, by decide +kernel⟩
abbrev s_BadDepth_init : Stmt := inClass (top 4) 0
abbrev N_BadDepth_init : List Str := ["self", "number"]
theorem sc_BadDepth_init : FnScope N_BadDepth_init ["self", "number"] (defScope s_BadDepth_init) := ⟨rfl, rfl, rfl, by decide +kernel, rfl, by decide +kernel, by decide +kernel⟩
abbrev s_BadParts_init : Stmt := inClass (top 5) 0
abbrev N_BadParts_init : List Str := ["self", "name"]
theorem sc_BadParts_init : FnScope N_BadParts_init ["self", "name"] (defScope s_BadParts_init) := ⟨rfl, rfl, rfl, by decide +kernel, rfl, by decide +kernel, by decide +kernel⟩
abbrev s_NoPart_init : Stmt := inClass (top 6) 0
abbrev N_NoPart_init : List Str := ["self", "name"]
theorem sc_NoPart_init : FnScope N_NoPart_init ["self", "name"] (defScope s_NoPart_init) := ⟨rfl, rfl, rfl, by decide +kernel, rfl, by decide +kernel, by decide +kernel⟩
abbrev s_NoWant_init : Stmt := inClass (top 7) 0
abbrev N_NoWant_init : List Str := ["self", "name"]
theorem sc_NoWant_init : FnScope N_NoWant_init ["self", "name"] (defScope s_NoWant_init) := ⟨rfl, rfl, rfl, by decide +kernel, rfl, by decide +kernel, by decide +kernel⟩
abbrev s_Barred_init : Stmt := inClass (top 8) 0
abbrev N_Barred_init : List Str := ["self", "word"]
theorem sc_Barred_init : FnScope N_Barred_init ["self", "word"] (defScope s_Barred_init) := ⟨rfl, rfl, rfl, by decide +kernel, rfl, by decide +kernel, by decide +kernel⟩
abbrev s_NoScope_init : Stmt := inClass (top 9) 0
abbrev N_NoScope_init : List Str := ["self", "scope"]
theorem sc_NoScope_init : FnScope N_NoScope_init ["self", "scope"] (defScope s_NoScope_init) := ⟨rfl, rfl, rfl, by decide +kernel, rfl, by decide +kernel, by decide +kernel⟩
abbrev s_Busy_init : Stmt := inClass (top 10) 0
abbrev N_Busy_init : List Str := ["self", "scope"]
theorem sc_Busy_init : FnScope N_Busy_init ["self", "scope"] (defScope s_Busy_init) := ⟨rfl, rfl, rfl, by decide +kernel, rfl, by decide +kernel, by decide +kernel⟩
abbrev s_Waiting_init : Stmt := inClass (top 11) 0
abbrev N_Waiting_init : List Str := ["self", "scope"]
theorem sc_Waiting_init : FnScope N_Waiting_init ["self", "scope"] (defScope s_Waiting_init) := ⟨rfl, rfl, rfl, by decide +kernel, rfl, by decide +kernel, by decide +kernel⟩
abbrev s_NoRequest_init : Stmt := inClass (top 12) 0
abbrev N_NoRequest_init : List Str := ["self", "request"]
theorem sc_NoRequest_init : FnScope N_NoRequest_init ["self", "request"] (defScope s_NoRequest_init) := ⟨rfl, rfl, rfl, by decide +kernel, rfl, by decide +kernel, by decide +kernel⟩
abbrev s_NoWork_init : Stmt := inClass (top 13) 0
abbrev N_NoWork_init : List Str := ["self", "work"]
theorem sc_NoWork_init : FnScope N_NoWork_init ["self", "work"] (defScope s_NoWork_init) := ⟨rfl, rfl, rfl, by decide +kernel, rfl, by decide +kernel, by decide +kernel⟩
abbrev s_BadDeed_init : Stmt := inClass (top 14) 0
abbrev N_BadDeed_init : List Str := ["self", "at"]
theorem sc_BadDeed_init : FnScope N_BadDeed_init ["self", "at"] (defScope s_BadDeed_init) := ⟨rfl, rfl, rfl, by decide +kernel, rfl, by decide +kernel, by decide +kernel⟩
abbrev s_BadFault_init : Stmt := inClass (top 15) 0
abbrev N_BadFault_init : List Str := ["self", "word"]
theorem sc_BadFault_init : FnScope N_BadFault_init ["self", "word"] (defScope s_BadFault_init) := ⟨rfl, rfl, rfl, by decide +kernel, rfl, by decide +kernel, by decide +kernel⟩
abbrev s_BadStand_init : Stmt := inClass (top 16) 0
abbrev N_BadStand_init : List Str := ["self", "stand"]
theorem sc_BadStand_init : FnScope N_BadStand_init ["self", "stand"] (defScope s_BadStand_init) := ⟨rfl, rfl, rfl, by decide +kernel, rfl, by decide +kernel, by decide +kernel⟩
abbrev s_BadBorder_init : Stmt := inClass (top 17) 0
abbrev N_BadBorder_init : List Str := ["self", "border"]
theorem sc_BadBorder_init : FnScope N_BadBorder_init ["self", "border"] (defScope s_BadBorder_init) := ⟨rfl, rfl, rfl, by decide +kernel, rfl, by decide +kernel, by decide +kernel⟩
abbrev s_BadText_init : Stmt := inClass (top 18) 0
abbrev N_BadText_init : List Str := ["self", "line"]
theorem sc_BadText_init : FnScope N_BadText_init ["self", "line"] (defScope s_BadText_init) := ⟨rfl, rfl, rfl, by decide +kernel, rfl, by decide +kernel, by decide +kernel⟩
abbrev s_law_begun : Stmt := top 20
abbrev N_law_begun : List Str := ["_law_script", "_law_wide", "_law_cell"]
theorem sc_law_begun : FnScope N_law_begun ["_law_script"] (defScope s_law_begun) := ⟨rfl, rfl, rfl, by decide +kernel, rfl, by decide +kernel, by decide +kernel⟩
abbrev s_law_mixed : Stmt := top 21
abbrev N_law_mixed : List Str := ["_law_draw", "_law_turn", "_law_found", "_law_prime", "_law_blend", "_law_cell"]
theorem sc_law_mixed : FnScope N_law_mixed ["_law_draw"] (defScope s_law_mixed) := ⟨rfl, rfl, rfl, by decide +kernel, rfl, by decide +kernel, by decide +kernel⟩
abbrev s_law_take : Stmt := top 22
abbrev N_law_take : List Str := ["_law_draw", "_law_size", "_law_found"]
theorem sc_law_take : FnScope N_law_take ["_law_draw", "_law_size"] (defScope s_law_take) := ⟨rfl, rfl, rfl, by decide +kernel, rfl, by decide +kernel, by decide +kernel⟩
abbrev s_law_pick : Stmt := top 23
abbrev N_law_pick : List Str := ["_law_draw", "_law_some"]
theorem sc_law_pick : FnScope N_law_pick ["_law_draw", "_law_some"] (defScope s_law_pick) := ⟨rfl, rfl, rfl, by decide +kernel, rfl, by decide +kernel, by decide +kernel⟩
abbrev s_law_caught : Stmt := top 24
abbrev N_law_caught : List Str := ["_law_job", "_law_caught_here", "_law_error"]
theorem sc_law_caught : FnScope N_law_caught ["_law_job"] (defScope s_law_caught) := ⟨rfl, rfl, rfl, by decide +kernel, rfl, by decide +kernel, by decide +kernel⟩
abbrev s_law_odd : Stmt := top 25
abbrev N_law_odd : List Str := ["_law_draw", "_law_some"]
theorem sc_law_odd : FnScope N_law_odd ["_law_draw"] (defScope s_law_odd) := ⟨rfl, rfl, rfl, by decide +kernel, rfl, by decide +kernel, by decide +kernel⟩
abbrev s_law_any : Stmt := top 26
abbrev N_law_any : List Str := ["_law_draw", "_law_deep", "_law_lap", "_law_some"]
theorem sc_law_any : FnScope N_law_any ["_law_draw"] (defScope s_law_any) := ⟨rfl, rfl, rfl, by decide +kernel, rfl, by decide +kernel, by decide +kernel⟩
abbrev s_law_each : Stmt := top 27
abbrev N_law_each : List Str := ["_law_odd_here", "_law_some"]
theorem sc_law_each : FnScope N_law_each ["_law_odd_here"] (defScope s_law_each) := ⟨rfl, rfl, rfl, by decide +kernel, rfl, by decide +kernel, by decide +kernel⟩
abbrev s_law_named : Stmt := top 28
abbrev N_law_named : List Str := ["_law_odd_here", "_law_some"]
theorem sc_law_named : FnScope N_law_named ["_law_odd_here"] (defScope s_law_named) := ⟨rfl, rfl, rfl, by decide +kernel, rfl, by decide +kernel, by decide +kernel⟩
abbrev s_law_kept : Stmt := top 29
abbrev N_law_kept : List Str := ["_law_some", "_law_found"]
theorem sc_law_kept : FnScope N_law_kept ["_law_some"] (defScope s_law_kept) := ⟨rfl, rfl, rfl, by decide +kernel, rfl, by decide +kernel, by decide +kernel⟩
abbrev s_law_marks : Stmt := top 30
abbrev N_law_marks : List Str := ["_law_error", "_law_some"]
theorem sc_law_marks : FnScope N_law_marks ["_law_error"] (defScope s_law_marks) := ⟨rfl, rfl, rfl, by decide +kernel, rfl, by decide +kernel, by decide +kernel⟩
abbrev s_law_thrown : Stmt := top 31
abbrev N_law_thrown : List Str := ["_law_odd_here"]
theorem sc_law_thrown : FnScope N_law_thrown ["_law_odd_here"] (defScope s_law_thrown) := ⟨rfl, rfl, rfl, by decide +kernel, rfl, by decide +kernel, by decide +kernel⟩
abbrev s_law : Stmt := top 32
abbrev N_law : List Str := ["_law_script", "_law_draw", "_law_turn", "_law_odd_here", "_law_some", "_law_way", "_law_caught_here", "_law_k"]
theorem sc_law : FnScope N_law ["_law_script"] (defScope s_law) := ⟨rfl, rfl, rfl, by decide +kernel, rfl, by decide +kernel, by decide +kernel⟩
def dd_BadBook_init : DefA := ⟨mAt "BadBook" "__init__", "__init__", "BadBook.__init__", defArgs s_BadBook_init, defBody s_BadBook_init, defScope s_BadBook_init, [], []⟩
def dd_BadPart_init : DefA := ⟨mAt "BadPart" "__init__", "__init__", "BadPart.__init__", defArgs s_BadPart_init, defBody s_BadPart_init, defScope s_BadPart_init, [], []⟩
def dd_BadDepth_init : DefA := ⟨mAt "BadDepth" "__init__", "__init__", "BadDepth.__init__", defArgs s_BadDepth_init, defBody s_BadDepth_init, defScope s_BadDepth_init, [], []⟩
def dd_BadParts_init : DefA := ⟨mAt "BadParts" "__init__", "__init__", "BadParts.__init__", defArgs s_BadParts_init, defBody s_BadParts_init, defScope s_BadParts_init, [], []⟩
def dd_NoPart_init : DefA := ⟨mAt "NoPart" "__init__", "__init__", "NoPart.__init__", defArgs s_NoPart_init, defBody s_NoPart_init, defScope s_NoPart_init, [], []⟩
def dd_NoWant_init : DefA := ⟨mAt "NoWant" "__init__", "__init__", "NoWant.__init__", defArgs s_NoWant_init, defBody s_NoWant_init, defScope s_NoWant_init, [], []⟩
def dd_Barred_init : DefA := ⟨mAt "Barred" "__init__", "__init__", "Barred.__init__", defArgs s_Barred_init, defBody s_Barred_init, defScope s_Barred_init, [], []⟩
def dd_NoScope_init : DefA := ⟨mAt "NoScope" "__init__", "__init__", "NoScope.__init__", defArgs s_NoScope_init, defBody s_NoScope_init, defScope s_NoScope_init, [], []⟩
def dd_Busy_init : DefA := ⟨mAt "Busy" "__init__", "__init__", "Busy.__init__", defArgs s_Busy_init, defBody s_Busy_init, defScope s_Busy_init, [], []⟩
def dd_Waiting_init : DefA := ⟨mAt "Waiting" "__init__", "__init__", "Waiting.__init__", defArgs s_Waiting_init, defBody s_Waiting_init, defScope s_Waiting_init, [], []⟩
def dd_NoRequest_init : DefA := ⟨mAt "NoRequest" "__init__", "__init__", "NoRequest.__init__", defArgs s_NoRequest_init, defBody s_NoRequest_init, defScope s_NoRequest_init, [], []⟩
def dd_NoWork_init : DefA := ⟨mAt "NoWork" "__init__", "__init__", "NoWork.__init__", defArgs s_NoWork_init, defBody s_NoWork_init, defScope s_NoWork_init, [], []⟩
def dd_BadDeed_init : DefA := ⟨mAt "BadDeed" "__init__", "__init__", "BadDeed.__init__", defArgs s_BadDeed_init, defBody s_BadDeed_init, defScope s_BadDeed_init, [], []⟩
def dd_BadFault_init : DefA := ⟨mAt "BadFault" "__init__", "__init__", "BadFault.__init__", defArgs s_BadFault_init, defBody s_BadFault_init, defScope s_BadFault_init, [], []⟩
def dd_BadStand_init : DefA := ⟨mAt "BadStand" "__init__", "__init__", "BadStand.__init__", defArgs s_BadStand_init, defBody s_BadStand_init, defScope s_BadStand_init, [], []⟩
def dd_BadBorder_init : DefA := ⟨mAt "BadBorder" "__init__", "__init__", "BadBorder.__init__", defArgs s_BadBorder_init, defBody s_BadBorder_init, defScope s_BadBorder_init, [], []⟩
def dd_BadText_init : DefA := ⟨mAt "BadText" "__init__", "__init__", "BadText.__init__", defArgs s_BadText_init, defBody s_BadText_init, defScope s_BadText_init, [], []⟩
def dd_law_begun : DefA := ⟨gAt "_law_begun", "_law_begun", "_law_begun", defArgs s_law_begun, defBody s_law_begun, defScope s_law_begun, [], []⟩
def dd_law_mixed : DefA := ⟨gAt "_law_mixed", "_law_mixed", "_law_mixed", defArgs s_law_mixed, defBody s_law_mixed, defScope s_law_mixed, [], []⟩
def dd_law_take : DefA := ⟨gAt "_law_take", "_law_take", "_law_take", defArgs s_law_take, defBody s_law_take, defScope s_law_take, [], []⟩
def dd_law_pick : DefA := ⟨gAt "_law_pick", "_law_pick", "_law_pick", defArgs s_law_pick, defBody s_law_pick, defScope s_law_pick, [], []⟩
def dd_law_caught : DefA := ⟨gAt "_law_caught", "_law_caught", "_law_caught", defArgs s_law_caught, defBody s_law_caught, defScope s_law_caught, [], []⟩
def dd_law_odd : DefA := ⟨gAt "_law_odd", "_law_odd", "_law_odd", defArgs s_law_odd, defBody s_law_odd, defScope s_law_odd, [], []⟩
def dd_law_any : DefA := ⟨gAt "_law_any", "_law_any", "_law_any", defArgs s_law_any, defBody s_law_any, defScope s_law_any, [], []⟩
def dd_law_each : DefA := ⟨gAt "_law_each", "_law_each", "_law_each", defArgs s_law_each, defBody s_law_each, defScope s_law_each, [], []⟩
def dd_law_named : DefA := ⟨gAt "_law_named", "_law_named", "_law_named", defArgs s_law_named, defBody s_law_named, defScope s_law_named, [], []⟩
def dd_law_kept : DefA := ⟨gAt "_law_kept", "_law_kept", "_law_kept", defArgs s_law_kept, defBody s_law_kept, defScope s_law_kept, [], []⟩
def dd_law_marks : DefA := ⟨gAt "_law_marks", "_law_marks", "_law_marks", defArgs s_law_marks, defBody s_law_marks, defScope s_law_marks, [], []⟩
def dd_law_thrown : DefA := ⟨gAt "_law_thrown", "_law_thrown", "_law_thrown", defArgs s_law_thrown, defBody s_law_thrown, defScope s_law_thrown, [], []⟩
def dd_law : DefA := ⟨gAt "law", "law", "law", defArgs s_law, defBody s_law, defScope s_law, [], []⟩
def fn : List DefA := [dd_BadBook_init, dd_BadPart_init, dd_BadDepth_init, dd_BadParts_init, dd_NoPart_init, dd_NoWant_init, dd_Barred_init, dd_NoScope_init, dd_Busy_init, dd_Waiting_init, dd_NoRequest_init, dd_NoWork_init, dd_BadDeed_init, dd_BadFault_init, dd_BadStand_init, dd_BadBorder_init, dd_BadText_init, dd_law_begun, dd_law_mixed, dd_law_take, dd_law_pick, dd_law_caught, dd_law_odd, dd_law_any, dd_law_each, dd_law_named, dd_law_kept, dd_law_marks, dd_law_thrown, dd_law]
def fa : List He.Fa := ([.free "abs", .free "int", .free "isinstance", .free "len", .free "min", .free "range", .free "repr", .free "ValueError", .glo "LifeError", .glo "BadBook", .glo "BadPart", .glo "BadDepth", .glo "BadParts", .glo "NoPart", .glo "NoWant", .glo "Barred", .glo "NoScope", .glo "Busy", .glo "Waiting", .glo "NoRequest", .glo "NoWork", .glo "BadDeed", .glo "BadFault", .glo "BadStand", .glo "BadBorder", .glo "BadText", .glo "_law_begun", .glo "_law_mixed", .glo "_law_take", .glo "_law_pick"] : List He.Fa) ++ ([.glo "_law_caught", .glo "_law_odd", .glo "_law_any", .glo "_law_each", .glo "_law_named", .glo "_law_kept", .glo "_law_marks", .glo "_law_thrown", .glo "law", .meth "BadBook" "__init__", .meth "BadPart" "__init__", .meth "BadDepth" "__init__", .meth "BadParts" "__init__", .meth "NoPart" "__init__", .meth "NoWant" "__init__", .meth "Barred" "__init__", .meth "NoScope" "__init__", .meth "Busy" "__init__", .meth "Waiting" "__init__", .meth "NoRequest" "__init__", .meth "NoWork" "__init__", .meth "BadDeed" "__init__", .meth "BadFault" "__init__", .meth "BadStand" "__init__", .meth "BadBorder" "__init__", .meth "BadText" "__init__"] : List He.Fa)
def exB (K : PySem.W.Frag) : Bool := errB K "LifeError" && (liB K "LifeError" && (errB K "BadBook" && (He.eqO (PySem.W.findIn K (.ref (He.ga K "BadBook")) "field") (some none) && (errB K "BadPart" && (He.eqO (PySem.W.findIn K (.ref (He.ga K "BadPart")) "field") (some none) && (errB K "BadDepth" && (He.eqO (PySem.W.findIn K (.ref (He.ga K "BadDepth")) "number") (some none) && (errB K "BadParts" && (He.eqO (PySem.W.findIn K (.ref (He.ga K "BadParts")) "name") (some none) && (errB K "NoPart" && (He.eqO (PySem.W.findIn K (.ref (He.ga K "NoPart")) "name") (some none) && (errB K "NoWant" && (He.eqO (PySem.W.findIn K (.ref (He.ga K "NoWant")) "name") (some none) && (errB K "Barred" && (He.eqO (PySem.W.findIn K (.ref (He.ga K "Barred")) "word") (some none) && (errB K "NoScope" && (He.eqO (PySem.W.findIn K (.ref (He.ga K "NoScope")) "scope") (some none) && (errB K "Busy" && (He.eqO (PySem.W.findIn K (.ref (He.ga K "Busy")) "scope") (some none) && (errB K "Waiting" && (He.eqO (PySem.W.findIn K (.ref (He.ga K "Waiting")) "scope") (some none) && (errB K "NoRequest" && (He.eqO (PySem.W.findIn K (.ref (He.ga K "NoRequest")) "request") (some none) && (errB K "NoWork" && (He.eqO (PySem.W.findIn K (.ref (He.ga K "NoWork")) "work") (some none) && (errB K "BadDeed" && (He.eqO (PySem.W.findIn K (.ref (He.ga K "BadDeed")) "at") (some none) && (errB K "BadFault" && (He.eqO (PySem.W.findIn K (.ref (He.ga K "BadFault")) "word") (some none) && (errB K "BadStand" && (He.eqO (PySem.W.findIn K (.ref (He.ga K "BadStand")) "stand") (some none) && (errB K "BadBorder" && (He.eqO (PySem.W.findIn K (.ref (He.ga K "BadBorder")) "border") (some none) && (errB K "BadText" && (He.eqO (PySem.W.findIn K (.ref (He.ga K "BadText")) "line") (some none) && (kitB K && (decide (PySem.W.exmOne K (.ref (He.ga K "Barred")) (.ref (He.ga K "LifeError")) = some true))))))))))))))))))))))))))))))))))))))
def tabs : List He.Tab := []
def lamd : List He.Defn := [("law", none)]
def Tx (K : PySem.W.Frag) (mg : Str → Option Value) : Prop := ∃ (w : World) (h : Heap), SaysH fa tabs lamd exB fn w h K ∧ K.In h ∧ h.Ns mainGlobals mg
section
variable {K : PySem.W.Frag} {mg : Str → Option Value}
theorem tx_more (T : Tx K mg) : exB K = true := by
  obtain ⟨w, h, c, X, G⟩ := T
  exact c.more
theorem m_abs (T : Tx K mg) : mg "abs" = none := by
  obtain ⟨w, h, c, X, G⟩ := T
  exact He.free_ok X G (c.x.t.d.fact 0 (f := .free "abs") rfl)
theorem m_int (T : Tx K mg) : mg "int" = none := by
  obtain ⟨w, h, c, X, G⟩ := T
  exact He.free_ok X G (c.x.t.d.fact 1 (f := .free "int") rfl)
theorem m_isinstance (T : Tx K mg) : mg "isinstance" = none := by
  obtain ⟨w, h, c, X, G⟩ := T
  exact He.free_ok X G (c.x.t.d.fact 2 (f := .free "isinstance") rfl)
theorem m_len (T : Tx K mg) : mg "len" = none := by
  obtain ⟨w, h, c, X, G⟩ := T
  exact He.free_ok X G (c.x.t.d.fact 3 (f := .free "len") rfl)
theorem m_min (T : Tx K mg) : mg "min" = none := by
  obtain ⟨w, h, c, X, G⟩ := T
  exact He.free_ok X G (c.x.t.d.fact 4 (f := .free "min") rfl)
theorem m_range (T : Tx K mg) : mg "range" = none := by
  obtain ⟨w, h, c, X, G⟩ := T
  exact He.free_ok X G (c.x.t.d.fact 5 (f := .free "range") rfl)
theorem m_repr (T : Tx K mg) : mg "repr" = none := by
  obtain ⟨w, h, c, X, G⟩ := T
  exact He.free_ok X G (c.x.t.d.fact 6 (f := .free "repr") rfl)
theorem m_ValueError (T : Tx K mg) : mg "ValueError" = none := by
  obtain ⟨w, h, c, X, G⟩ := T
  exact He.free_ok X G (c.x.t.d.fact 7 (f := .free "ValueError") rfl)
theorem g_LifeError (T : Tx K mg) : mg "LifeError" = some (.ref (He.ga K "LifeError")) := by
  obtain ⟨w, h, c, X, G⟩ := T
  exact He.glo_ok X G (c.x.t.d.fact 8 (f := .glo "LifeError") rfl)
theorem g_BadBook (T : Tx K mg) : mg "BadBook" = some (.ref (He.ga K "BadBook")) := by
  obtain ⟨w, h, c, X, G⟩ := T
  exact He.glo_ok X G (c.x.t.d.fact 9 (f := .glo "BadBook") rfl)
theorem g_BadPart (T : Tx K mg) : mg "BadPart" = some (.ref (He.ga K "BadPart")) := by
  obtain ⟨w, h, c, X, G⟩ := T
  exact He.glo_ok X G (c.x.t.d.fact 10 (f := .glo "BadPart") rfl)
theorem g_BadDepth (T : Tx K mg) : mg "BadDepth" = some (.ref (He.ga K "BadDepth")) := by
  obtain ⟨w, h, c, X, G⟩ := T
  exact He.glo_ok X G (c.x.t.d.fact 11 (f := .glo "BadDepth") rfl)
theorem g_BadParts (T : Tx K mg) : mg "BadParts" = some (.ref (He.ga K "BadParts")) := by
  obtain ⟨w, h, c, X, G⟩ := T
  exact He.glo_ok X G (c.x.t.d.fact 12 (f := .glo "BadParts") rfl)
theorem g_NoPart (T : Tx K mg) : mg "NoPart" = some (.ref (He.ga K "NoPart")) := by
  obtain ⟨w, h, c, X, G⟩ := T
  exact He.glo_ok X G (c.x.t.d.fact 13 (f := .glo "NoPart") rfl)
theorem g_NoWant (T : Tx K mg) : mg "NoWant" = some (.ref (He.ga K "NoWant")) := by
  obtain ⟨w, h, c, X, G⟩ := T
  exact He.glo_ok X G (c.x.t.d.fact 14 (f := .glo "NoWant") rfl)
theorem g_Barred (T : Tx K mg) : mg "Barred" = some (.ref (He.ga K "Barred")) := by
  obtain ⟨w, h, c, X, G⟩ := T
  exact He.glo_ok X G (c.x.t.d.fact 15 (f := .glo "Barred") rfl)
theorem g_NoScope (T : Tx K mg) : mg "NoScope" = some (.ref (He.ga K "NoScope")) := by
  obtain ⟨w, h, c, X, G⟩ := T
  exact He.glo_ok X G (c.x.t.d.fact 16 (f := .glo "NoScope") rfl)
theorem g_Busy (T : Tx K mg) : mg "Busy" = some (.ref (He.ga K "Busy")) := by
  obtain ⟨w, h, c, X, G⟩ := T
  exact He.glo_ok X G (c.x.t.d.fact 17 (f := .glo "Busy") rfl)
theorem g_Waiting (T : Tx K mg) : mg "Waiting" = some (.ref (He.ga K "Waiting")) := by
  obtain ⟨w, h, c, X, G⟩ := T
  exact He.glo_ok X G (c.x.t.d.fact 18 (f := .glo "Waiting") rfl)
theorem g_NoRequest (T : Tx K mg) : mg "NoRequest" = some (.ref (He.ga K "NoRequest")) := by
  obtain ⟨w, h, c, X, G⟩ := T
  exact He.glo_ok X G (c.x.t.d.fact 19 (f := .glo "NoRequest") rfl)
theorem g_NoWork (T : Tx K mg) : mg "NoWork" = some (.ref (He.ga K "NoWork")) := by
  obtain ⟨w, h, c, X, G⟩ := T
  exact He.glo_ok X G (c.x.t.d.fact 20 (f := .glo "NoWork") rfl)
theorem g_BadDeed (T : Tx K mg) : mg "BadDeed" = some (.ref (He.ga K "BadDeed")) := by
  obtain ⟨w, h, c, X, G⟩ := T
  exact He.glo_ok X G (c.x.t.d.fact 21 (f := .glo "BadDeed") rfl)
theorem g_BadFault (T : Tx K mg) : mg "BadFault" = some (.ref (He.ga K "BadFault")) := by
  obtain ⟨w, h, c, X, G⟩ := T
  exact He.glo_ok X G (c.x.t.d.fact 22 (f := .glo "BadFault") rfl)
theorem g_BadStand (T : Tx K mg) : mg "BadStand" = some (.ref (He.ga K "BadStand")) := by
  obtain ⟨w, h, c, X, G⟩ := T
  exact He.glo_ok X G (c.x.t.d.fact 23 (f := .glo "BadStand") rfl)
theorem g_BadBorder (T : Tx K mg) : mg "BadBorder" = some (.ref (He.ga K "BadBorder")) := by
  obtain ⟨w, h, c, X, G⟩ := T
  exact He.glo_ok X G (c.x.t.d.fact 24 (f := .glo "BadBorder") rfl)
theorem g_BadText (T : Tx K mg) : mg "BadText" = some (.ref (He.ga K "BadText")) := by
  obtain ⟨w, h, c, X, G⟩ := T
  exact He.glo_ok X G (c.x.t.d.fact 25 (f := .glo "BadText") rfl)
theorem g_law_begun (T : Tx K mg) : mg "_law_begun" = some (.ref (He.ga K "_law_begun")) := by
  obtain ⟨w, h, c, X, G⟩ := T
  exact He.glo_ok X G (c.x.t.d.fact 26 (f := .glo "_law_begun") rfl)
theorem g_law_mixed (T : Tx K mg) : mg "_law_mixed" = some (.ref (He.ga K "_law_mixed")) := by
  obtain ⟨w, h, c, X, G⟩ := T
  exact He.glo_ok X G (c.x.t.d.fact 27 (f := .glo "_law_mixed") rfl)
theorem g_law_take (T : Tx K mg) : mg "_law_take" = some (.ref (He.ga K "_law_take")) := by
  obtain ⟨w, h, c, X, G⟩ := T
  exact He.glo_ok X G (c.x.t.d.fact 28 (f := .glo "_law_take") rfl)
theorem g_law_pick (T : Tx K mg) : mg "_law_pick" = some (.ref (He.ga K "_law_pick")) := by
  obtain ⟨w, h, c, X, G⟩ := T
  exact He.glo_ok X G (c.x.t.d.fact 29 (f := .glo "_law_pick") rfl)
theorem g_law_caught (T : Tx K mg) : mg "_law_caught" = some (.ref (He.ga K "_law_caught")) := by
  obtain ⟨w, h, c, X, G⟩ := T
  exact He.glo_ok X G (c.x.t.d.fact 30 (f := .glo "_law_caught") rfl)
theorem g_law_odd (T : Tx K mg) : mg "_law_odd" = some (.ref (He.ga K "_law_odd")) := by
  obtain ⟨w, h, c, X, G⟩ := T
  exact He.glo_ok X G (c.x.t.d.fact 31 (f := .glo "_law_odd") rfl)
theorem g_law_any (T : Tx K mg) : mg "_law_any" = some (.ref (He.ga K "_law_any")) := by
  obtain ⟨w, h, c, X, G⟩ := T
  exact He.glo_ok X G (c.x.t.d.fact 32 (f := .glo "_law_any") rfl)
theorem g_law_each (T : Tx K mg) : mg "_law_each" = some (.ref (He.ga K "_law_each")) := by
  obtain ⟨w, h, c, X, G⟩ := T
  exact He.glo_ok X G (c.x.t.d.fact 33 (f := .glo "_law_each") rfl)
theorem g_law_named (T : Tx K mg) : mg "_law_named" = some (.ref (He.ga K "_law_named")) := by
  obtain ⟨w, h, c, X, G⟩ := T
  exact He.glo_ok X G (c.x.t.d.fact 34 (f := .glo "_law_named") rfl)
theorem g_law_kept (T : Tx K mg) : mg "_law_kept" = some (.ref (He.ga K "_law_kept")) := by
  obtain ⟨w, h, c, X, G⟩ := T
  exact He.glo_ok X G (c.x.t.d.fact 35 (f := .glo "_law_kept") rfl)
theorem g_law_marks (T : Tx K mg) : mg "_law_marks" = some (.ref (He.ga K "_law_marks")) := by
  obtain ⟨w, h, c, X, G⟩ := T
  exact He.glo_ok X G (c.x.t.d.fact 36 (f := .glo "_law_marks") rfl)
theorem g_law_thrown (T : Tx K mg) : mg "_law_thrown" = some (.ref (He.ga K "_law_thrown")) := by
  obtain ⟨w, h, c, X, G⟩ := T
  exact He.glo_ok X G (c.x.t.d.fact 37 (f := .glo "_law_thrown") rfl)
theorem g_law (T : Tx K mg) : mg "law" = some (.ref (He.ga K "law")) := by
  obtain ⟨w, h, c, X, G⟩ := T
  exact He.glo_ok X G (c.x.t.d.fact 38 (f := .glo "law") rfl)
theorem mi_BadBook (T : Tx K mg) : Meth K (He.ga K "BadBook") "__init__" (mAt "BadBook" "__init__" K) := by
  obtain ⟨w, h, c, X, G⟩ := T
  exact He.meth_ok (c.x.t.d.fact 39 (f := .meth "BadBook" "__init__") rfl)
theorem mi_BadPart (T : Tx K mg) : Meth K (He.ga K "BadPart") "__init__" (mAt "BadPart" "__init__" K) := by
  obtain ⟨w, h, c, X, G⟩ := T
  exact He.meth_ok (c.x.t.d.fact 40 (f := .meth "BadPart" "__init__") rfl)
theorem mi_BadDepth (T : Tx K mg) : Meth K (He.ga K "BadDepth") "__init__" (mAt "BadDepth" "__init__" K) := by
  obtain ⟨w, h, c, X, G⟩ := T
  exact He.meth_ok (c.x.t.d.fact 41 (f := .meth "BadDepth" "__init__") rfl)
theorem mi_BadParts (T : Tx K mg) : Meth K (He.ga K "BadParts") "__init__" (mAt "BadParts" "__init__" K) := by
  obtain ⟨w, h, c, X, G⟩ := T
  exact He.meth_ok (c.x.t.d.fact 42 (f := .meth "BadParts" "__init__") rfl)
theorem mi_NoPart (T : Tx K mg) : Meth K (He.ga K "NoPart") "__init__" (mAt "NoPart" "__init__" K) := by
  obtain ⟨w, h, c, X, G⟩ := T
  exact He.meth_ok (c.x.t.d.fact 43 (f := .meth "NoPart" "__init__") rfl)
theorem mi_NoWant (T : Tx K mg) : Meth K (He.ga K "NoWant") "__init__" (mAt "NoWant" "__init__" K) := by
  obtain ⟨w, h, c, X, G⟩ := T
  exact He.meth_ok (c.x.t.d.fact 44 (f := .meth "NoWant" "__init__") rfl)
theorem mi_Barred (T : Tx K mg) : Meth K (He.ga K "Barred") "__init__" (mAt "Barred" "__init__" K) := by
  obtain ⟨w, h, c, X, G⟩ := T
  exact He.meth_ok (c.x.t.d.fact 45 (f := .meth "Barred" "__init__") rfl)
theorem mi_NoScope (T : Tx K mg) : Meth K (He.ga K "NoScope") "__init__" (mAt "NoScope" "__init__" K) := by
  obtain ⟨w, h, c, X, G⟩ := T
  exact He.meth_ok (c.x.t.d.fact 46 (f := .meth "NoScope" "__init__") rfl)
theorem mi_Busy (T : Tx K mg) : Meth K (He.ga K "Busy") "__init__" (mAt "Busy" "__init__" K) := by
  obtain ⟨w, h, c, X, G⟩ := T
  exact He.meth_ok (c.x.t.d.fact 47 (f := .meth "Busy" "__init__") rfl)
theorem mi_Waiting (T : Tx K mg) : Meth K (He.ga K "Waiting") "__init__" (mAt "Waiting" "__init__" K) := by
  obtain ⟨w, h, c, X, G⟩ := T
  exact He.meth_ok (c.x.t.d.fact 48 (f := .meth "Waiting" "__init__") rfl)
theorem mi_NoRequest (T : Tx K mg) : Meth K (He.ga K "NoRequest") "__init__" (mAt "NoRequest" "__init__" K) := by
  obtain ⟨w, h, c, X, G⟩ := T
  exact He.meth_ok (c.x.t.d.fact 49 (f := .meth "NoRequest" "__init__") rfl)
theorem mi_NoWork (T : Tx K mg) : Meth K (He.ga K "NoWork") "__init__" (mAt "NoWork" "__init__" K) := by
  obtain ⟨w, h, c, X, G⟩ := T
  exact He.meth_ok (c.x.t.d.fact 50 (f := .meth "NoWork" "__init__") rfl)
theorem mi_BadDeed (T : Tx K mg) : Meth K (He.ga K "BadDeed") "__init__" (mAt "BadDeed" "__init__" K) := by
  obtain ⟨w, h, c, X, G⟩ := T
  exact He.meth_ok (c.x.t.d.fact 51 (f := .meth "BadDeed" "__init__") rfl)
theorem mi_BadFault (T : Tx K mg) : Meth K (He.ga K "BadFault") "__init__" (mAt "BadFault" "__init__" K) := by
  obtain ⟨w, h, c, X, G⟩ := T
  exact He.meth_ok (c.x.t.d.fact 52 (f := .meth "BadFault" "__init__") rfl)
theorem mi_BadStand (T : Tx K mg) : Meth K (He.ga K "BadStand") "__init__" (mAt "BadStand" "__init__" K) := by
  obtain ⟨w, h, c, X, G⟩ := T
  exact He.meth_ok (c.x.t.d.fact 53 (f := .meth "BadStand" "__init__") rfl)
theorem mi_BadBorder (T : Tx K mg) : Meth K (He.ga K "BadBorder") "__init__" (mAt "BadBorder" "__init__" K) := by
  obtain ⟨w, h, c, X, G⟩ := T
  exact He.meth_ok (c.x.t.d.fact 54 (f := .meth "BadBorder" "__init__") rfl)
theorem mi_BadText (T : Tx K mg) : Meth K (He.ga K "BadText") "__init__" (mAt "BadText" "__init__" K) := by
  obtain ⟨w, h, c, X, G⟩ := T
  exact He.meth_ok (c.x.t.d.fact 55 (f := .meth "BadText" "__init__") rfl)
theorem d_BadBook_init (T : Tx K mg) : ∃ fd, FunD K "__init__" "BadBook.__init__" (defArgs s_BadBook_init) (defBody s_BadBook_init) (defScope s_BadBook_init) (dd_BadBook_init.dvs K) (dd_BadBook_init.kws K) (mAt "BadBook" "__init__" K) fd := by
  obtain ⟨w, h, c, X, G⟩ := T
  exact c.def_ 0 (d := dd_BadBook_init) rfl
theorem d_BadPart_init (T : Tx K mg) : ∃ fd, FunD K "__init__" "BadPart.__init__" (defArgs s_BadPart_init) (defBody s_BadPart_init) (defScope s_BadPart_init) (dd_BadPart_init.dvs K) (dd_BadPart_init.kws K) (mAt "BadPart" "__init__" K) fd := by
  obtain ⟨w, h, c, X, G⟩ := T
  exact c.def_ 1 (d := dd_BadPart_init) rfl
theorem d_BadDepth_init (T : Tx K mg) : ∃ fd, FunD K "__init__" "BadDepth.__init__" (defArgs s_BadDepth_init) (defBody s_BadDepth_init) (defScope s_BadDepth_init) (dd_BadDepth_init.dvs K) (dd_BadDepth_init.kws K) (mAt "BadDepth" "__init__" K) fd := by
  obtain ⟨w, h, c, X, G⟩ := T
  exact c.def_ 2 (d := dd_BadDepth_init) rfl
theorem d_BadParts_init (T : Tx K mg) : ∃ fd, FunD K "__init__" "BadParts.__init__" (defArgs s_BadParts_init) (defBody s_BadParts_init) (defScope s_BadParts_init) (dd_BadParts_init.dvs K) (dd_BadParts_init.kws K) (mAt "BadParts" "__init__" K) fd := by
  obtain ⟨w, h, c, X, G⟩ := T
  exact c.def_ 3 (d := dd_BadParts_init) rfl
theorem d_NoPart_init (T : Tx K mg) : ∃ fd, FunD K "__init__" "NoPart.__init__" (defArgs s_NoPart_init) (defBody s_NoPart_init) (defScope s_NoPart_init) (dd_NoPart_init.dvs K) (dd_NoPart_init.kws K) (mAt "NoPart" "__init__" K) fd := by
  obtain ⟨w, h, c, X, G⟩ := T
  exact c.def_ 4 (d := dd_NoPart_init) rfl
theorem d_NoWant_init (T : Tx K mg) : ∃ fd, FunD K "__init__" "NoWant.__init__" (defArgs s_NoWant_init) (defBody s_NoWant_init) (defScope s_NoWant_init) (dd_NoWant_init.dvs K) (dd_NoWant_init.kws K) (mAt "NoWant" "__init__" K) fd := by
  obtain ⟨w, h, c, X, G⟩ := T
  exact c.def_ 5 (d := dd_NoWant_init) rfl
theorem d_Barred_init (T : Tx K mg) : ∃ fd, FunD K "__init__" "Barred.__init__" (defArgs s_Barred_init) (defBody s_Barred_init) (defScope s_Barred_init) (dd_Barred_init.dvs K) (dd_Barred_init.kws K) (mAt "Barred" "__init__" K) fd := by
  obtain ⟨w, h, c, X, G⟩ := T
  exact c.def_ 6 (d := dd_Barred_init) rfl
theorem d_NoScope_init (T : Tx K mg) : ∃ fd, FunD K "__init__" "NoScope.__init__" (defArgs s_NoScope_init) (defBody s_NoScope_init) (defScope s_NoScope_init) (dd_NoScope_init.dvs K) (dd_NoScope_init.kws K) (mAt "NoScope" "__init__" K) fd := by
  obtain ⟨w, h, c, X, G⟩ := T
  exact c.def_ 7 (d := dd_NoScope_init) rfl
theorem d_Busy_init (T : Tx K mg) : ∃ fd, FunD K "__init__" "Busy.__init__" (defArgs s_Busy_init) (defBody s_Busy_init) (defScope s_Busy_init) (dd_Busy_init.dvs K) (dd_Busy_init.kws K) (mAt "Busy" "__init__" K) fd := by
  obtain ⟨w, h, c, X, G⟩ := T
  exact c.def_ 8 (d := dd_Busy_init) rfl
theorem d_Waiting_init (T : Tx K mg) : ∃ fd, FunD K "__init__" "Waiting.__init__" (defArgs s_Waiting_init) (defBody s_Waiting_init) (defScope s_Waiting_init) (dd_Waiting_init.dvs K) (dd_Waiting_init.kws K) (mAt "Waiting" "__init__" K) fd := by
  obtain ⟨w, h, c, X, G⟩ := T
  exact c.def_ 9 (d := dd_Waiting_init) rfl
theorem d_NoRequest_init (T : Tx K mg) : ∃ fd, FunD K "__init__" "NoRequest.__init__" (defArgs s_NoRequest_init) (defBody s_NoRequest_init) (defScope s_NoRequest_init) (dd_NoRequest_init.dvs K) (dd_NoRequest_init.kws K) (mAt "NoRequest" "__init__" K) fd := by
  obtain ⟨w, h, c, X, G⟩ := T
  exact c.def_ 10 (d := dd_NoRequest_init) rfl
theorem d_NoWork_init (T : Tx K mg) : ∃ fd, FunD K "__init__" "NoWork.__init__" (defArgs s_NoWork_init) (defBody s_NoWork_init) (defScope s_NoWork_init) (dd_NoWork_init.dvs K) (dd_NoWork_init.kws K) (mAt "NoWork" "__init__" K) fd := by
  obtain ⟨w, h, c, X, G⟩ := T
  exact c.def_ 11 (d := dd_NoWork_init) rfl
theorem d_BadDeed_init (T : Tx K mg) : ∃ fd, FunD K "__init__" "BadDeed.__init__" (defArgs s_BadDeed_init) (defBody s_BadDeed_init) (defScope s_BadDeed_init) (dd_BadDeed_init.dvs K) (dd_BadDeed_init.kws K) (mAt "BadDeed" "__init__" K) fd := by
  obtain ⟨w, h, c, X, G⟩ := T
  exact c.def_ 12 (d := dd_BadDeed_init) rfl
theorem d_BadFault_init (T : Tx K mg) : ∃ fd, FunD K "__init__" "BadFault.__init__" (defArgs s_BadFault_init) (defBody s_BadFault_init) (defScope s_BadFault_init) (dd_BadFault_init.dvs K) (dd_BadFault_init.kws K) (mAt "BadFault" "__init__" K) fd := by
  obtain ⟨w, h, c, X, G⟩ := T
  exact c.def_ 13 (d := dd_BadFault_init) rfl
theorem d_BadStand_init (T : Tx K mg) : ∃ fd, FunD K "__init__" "BadStand.__init__" (defArgs s_BadStand_init) (defBody s_BadStand_init) (defScope s_BadStand_init) (dd_BadStand_init.dvs K) (dd_BadStand_init.kws K) (mAt "BadStand" "__init__" K) fd := by
  obtain ⟨w, h, c, X, G⟩ := T
  exact c.def_ 14 (d := dd_BadStand_init) rfl
theorem d_BadBorder_init (T : Tx K mg) : ∃ fd, FunD K "__init__" "BadBorder.__init__" (defArgs s_BadBorder_init) (defBody s_BadBorder_init) (defScope s_BadBorder_init) (dd_BadBorder_init.dvs K) (dd_BadBorder_init.kws K) (mAt "BadBorder" "__init__" K) fd := by
  obtain ⟨w, h, c, X, G⟩ := T
  exact c.def_ 15 (d := dd_BadBorder_init) rfl
theorem d_BadText_init (T : Tx K mg) : ∃ fd, FunD K "__init__" "BadText.__init__" (defArgs s_BadText_init) (defBody s_BadText_init) (defScope s_BadText_init) (dd_BadText_init.dvs K) (dd_BadText_init.kws K) (mAt "BadText" "__init__" K) fd := by
  obtain ⟨w, h, c, X, G⟩ := T
  exact c.def_ 16 (d := dd_BadText_init) rfl
theorem d_law_begun (T : Tx K mg) : ∃ fd, FunD K "_law_begun" "_law_begun" (defArgs s_law_begun) (defBody s_law_begun) (defScope s_law_begun) (dd_law_begun.dvs K) (dd_law_begun.kws K) (gAt "_law_begun" K) fd := by
  obtain ⟨w, h, c, X, G⟩ := T
  exact c.def_ 17 (d := dd_law_begun) rfl
theorem d_law_mixed (T : Tx K mg) : ∃ fd, FunD K "_law_mixed" "_law_mixed" (defArgs s_law_mixed) (defBody s_law_mixed) (defScope s_law_mixed) (dd_law_mixed.dvs K) (dd_law_mixed.kws K) (gAt "_law_mixed" K) fd := by
  obtain ⟨w, h, c, X, G⟩ := T
  exact c.def_ 18 (d := dd_law_mixed) rfl
theorem d_law_take (T : Tx K mg) : ∃ fd, FunD K "_law_take" "_law_take" (defArgs s_law_take) (defBody s_law_take) (defScope s_law_take) (dd_law_take.dvs K) (dd_law_take.kws K) (gAt "_law_take" K) fd := by
  obtain ⟨w, h, c, X, G⟩ := T
  exact c.def_ 19 (d := dd_law_take) rfl
theorem d_law_pick (T : Tx K mg) : ∃ fd, FunD K "_law_pick" "_law_pick" (defArgs s_law_pick) (defBody s_law_pick) (defScope s_law_pick) (dd_law_pick.dvs K) (dd_law_pick.kws K) (gAt "_law_pick" K) fd := by
  obtain ⟨w, h, c, X, G⟩ := T
  exact c.def_ 20 (d := dd_law_pick) rfl
theorem d_law_caught (T : Tx K mg) : ∃ fd, FunD K "_law_caught" "_law_caught" (defArgs s_law_caught) (defBody s_law_caught) (defScope s_law_caught) (dd_law_caught.dvs K) (dd_law_caught.kws K) (gAt "_law_caught" K) fd := by
  obtain ⟨w, h, c, X, G⟩ := T
  exact c.def_ 21 (d := dd_law_caught) rfl
theorem d_law_odd (T : Tx K mg) : ∃ fd, FunD K "_law_odd" "_law_odd" (defArgs s_law_odd) (defBody s_law_odd) (defScope s_law_odd) (dd_law_odd.dvs K) (dd_law_odd.kws K) (gAt "_law_odd" K) fd := by
  obtain ⟨w, h, c, X, G⟩ := T
  exact c.def_ 22 (d := dd_law_odd) rfl
theorem d_law_any (T : Tx K mg) : ∃ fd, FunD K "_law_any" "_law_any" (defArgs s_law_any) (defBody s_law_any) (defScope s_law_any) (dd_law_any.dvs K) (dd_law_any.kws K) (gAt "_law_any" K) fd := by
  obtain ⟨w, h, c, X, G⟩ := T
  exact c.def_ 23 (d := dd_law_any) rfl
theorem d_law_each (T : Tx K mg) : ∃ fd, FunD K "_law_each" "_law_each" (defArgs s_law_each) (defBody s_law_each) (defScope s_law_each) (dd_law_each.dvs K) (dd_law_each.kws K) (gAt "_law_each" K) fd := by
  obtain ⟨w, h, c, X, G⟩ := T
  exact c.def_ 24 (d := dd_law_each) rfl
theorem d_law_named (T : Tx K mg) : ∃ fd, FunD K "_law_named" "_law_named" (defArgs s_law_named) (defBody s_law_named) (defScope s_law_named) (dd_law_named.dvs K) (dd_law_named.kws K) (gAt "_law_named" K) fd := by
  obtain ⟨w, h, c, X, G⟩ := T
  exact c.def_ 25 (d := dd_law_named) rfl
theorem d_law_kept (T : Tx K mg) : ∃ fd, FunD K "_law_kept" "_law_kept" (defArgs s_law_kept) (defBody s_law_kept) (defScope s_law_kept) (dd_law_kept.dvs K) (dd_law_kept.kws K) (gAt "_law_kept" K) fd := by
  obtain ⟨w, h, c, X, G⟩ := T
  exact c.def_ 26 (d := dd_law_kept) rfl
theorem d_law_marks (T : Tx K mg) : ∃ fd, FunD K "_law_marks" "_law_marks" (defArgs s_law_marks) (defBody s_law_marks) (defScope s_law_marks) (dd_law_marks.dvs K) (dd_law_marks.kws K) (gAt "_law_marks" K) fd := by
  obtain ⟨w, h, c, X, G⟩ := T
  exact c.def_ 27 (d := dd_law_marks) rfl
theorem d_law_thrown (T : Tx K mg) : ∃ fd, FunD K "_law_thrown" "_law_thrown" (defArgs s_law_thrown) (defBody s_law_thrown) (defScope s_law_thrown) (dd_law_thrown.dvs K) (dd_law_thrown.kws K) (gAt "_law_thrown" K) fd := by
  obtain ⟨w, h, c, X, G⟩ := T
  exact c.def_ 28 (d := dd_law_thrown) rfl
theorem d_law (T : Tx K mg) : ∃ fd, FunD K "law" "law" (defArgs s_law) (defBody s_law) (defScope s_law) (dd_law.dvs K) (dd_law.kws K) (gAt "law" K) fd := by
  obtain ⟨w, h, c, X, G⟩ := T
  exact c.def_ 29 (d := dd_law) rfl
theorem er_LifeError (T : Tx K mg) : ErrC K (He.ga K "LifeError") := errB_ok (He.ba (tx_more T)).1
theorem li_LifeError (T : Tx K mg) : liB K "LifeError" = true := (He.ba (He.ba (tx_more T)).2).1
theorem er_BadBook (T : Tx K mg) : ErrC K (He.ga K "BadBook") := errB_ok (He.ba (He.ba (He.ba (tx_more T)).2).2).1
theorem nf_BadBook (T : Tx K mg) : PySem.W.findIn K (.ref (He.ga K "BadBook")) "field" = some none := He.eqO_ok (He.ba (He.ba (He.ba (He.ba (tx_more T)).2).2).2).1
theorem er_BadPart (T : Tx K mg) : ErrC K (He.ga K "BadPart") := errB_ok (He.ba (He.ba (He.ba (He.ba (He.ba (tx_more T)).2).2).2).2).1
theorem nf_BadPart (T : Tx K mg) : PySem.W.findIn K (.ref (He.ga K "BadPart")) "field" = some none := He.eqO_ok (He.ba (He.ba (He.ba (He.ba (He.ba (He.ba (tx_more T)).2).2).2).2).2).1
theorem er_BadDepth (T : Tx K mg) : ErrC K (He.ga K "BadDepth") := errB_ok (He.ba (He.ba (He.ba (He.ba (He.ba (He.ba (He.ba (tx_more T)).2).2).2).2).2).2).1
theorem nf_BadDepth (T : Tx K mg) : PySem.W.findIn K (.ref (He.ga K "BadDepth")) "number" = some none := He.eqO_ok (He.ba (He.ba (He.ba (He.ba (He.ba (He.ba (He.ba (He.ba (tx_more T)).2).2).2).2).2).2).2).1
theorem er_BadParts (T : Tx K mg) : ErrC K (He.ga K "BadParts") := errB_ok (He.ba (He.ba (He.ba (He.ba (He.ba (He.ba (He.ba (He.ba (He.ba (tx_more T)).2).2).2).2).2).2).2).2).1
theorem nf_BadParts (T : Tx K mg) : PySem.W.findIn K (.ref (He.ga K "BadParts")) "name" = some none := He.eqO_ok (He.ba (He.ba (He.ba (He.ba (He.ba (He.ba (He.ba (He.ba (He.ba (He.ba (tx_more T)).2).2).2).2).2).2).2).2).2).1
theorem er_NoPart (T : Tx K mg) : ErrC K (He.ga K "NoPart") := errB_ok (He.ba (He.ba (He.ba (He.ba (He.ba (He.ba (He.ba (He.ba (He.ba (He.ba (He.ba (tx_more T)).2).2).2).2).2).2).2).2).2).2).1
theorem nf_NoPart (T : Tx K mg) : PySem.W.findIn K (.ref (He.ga K "NoPart")) "name" = some none := He.eqO_ok (He.ba (He.ba (He.ba (He.ba (He.ba (He.ba (He.ba (He.ba (He.ba (He.ba (He.ba (He.ba (tx_more T)).2).2).2).2).2).2).2).2).2).2).2).1
theorem er_NoWant (T : Tx K mg) : ErrC K (He.ga K "NoWant") := errB_ok (He.ba (He.ba (He.ba (He.ba (He.ba (He.ba (He.ba (He.ba (He.ba (He.ba (He.ba (He.ba (He.ba (tx_more T)).2).2).2).2).2).2).2).2).2).2).2).2).1
theorem nf_NoWant (T : Tx K mg) : PySem.W.findIn K (.ref (He.ga K "NoWant")) "name" = some none := He.eqO_ok (He.ba (He.ba (He.ba (He.ba (He.ba (He.ba (He.ba (He.ba (He.ba (He.ba (He.ba (He.ba (He.ba (He.ba (tx_more T)).2).2).2).2).2).2).2).2).2).2).2).2).2).1
theorem er_Barred (T : Tx K mg) : ErrC K (He.ga K "Barred") := errB_ok (He.ba (He.ba (He.ba (He.ba (He.ba (He.ba (He.ba (He.ba (He.ba (He.ba (He.ba (He.ba (He.ba (He.ba (He.ba (tx_more T)).2).2).2).2).2).2).2).2).2).2).2).2).2).2).1
theorem nf_Barred (T : Tx K mg) : PySem.W.findIn K (.ref (He.ga K "Barred")) "word" = some none := He.eqO_ok (He.ba (He.ba (He.ba (He.ba (He.ba (He.ba (He.ba (He.ba (He.ba (He.ba (He.ba (He.ba (He.ba (He.ba (He.ba (He.ba (tx_more T)).2).2).2).2).2).2).2).2).2).2).2).2).2).2).2).1
theorem er_NoScope (T : Tx K mg) : ErrC K (He.ga K "NoScope") := errB_ok (He.ba (He.ba (He.ba (He.ba (He.ba (He.ba (He.ba (He.ba (He.ba (He.ba (He.ba (He.ba (He.ba (He.ba (He.ba (He.ba (He.ba (tx_more T)).2).2).2).2).2).2).2).2).2).2).2).2).2).2).2).2).1
theorem nf_NoScope (T : Tx K mg) : PySem.W.findIn K (.ref (He.ga K "NoScope")) "scope" = some none := He.eqO_ok (He.ba (He.ba (He.ba (He.ba (He.ba (He.ba (He.ba (He.ba (He.ba (He.ba (He.ba (He.ba (He.ba (He.ba (He.ba (He.ba (He.ba (He.ba (tx_more T)).2).2).2).2).2).2).2).2).2).2).2).2).2).2).2).2).2).1
theorem er_Busy (T : Tx K mg) : ErrC K (He.ga K "Busy") := errB_ok (He.ba (He.ba (He.ba (He.ba (He.ba (He.ba (He.ba (He.ba (He.ba (He.ba (He.ba (He.ba (He.ba (He.ba (He.ba (He.ba (He.ba (He.ba (He.ba (tx_more T)).2).2).2).2).2).2).2).2).2).2).2).2).2).2).2).2).2).2).1
theorem nf_Busy (T : Tx K mg) : PySem.W.findIn K (.ref (He.ga K "Busy")) "scope" = some none := He.eqO_ok (He.ba (He.ba (He.ba (He.ba (He.ba (He.ba (He.ba (He.ba (He.ba (He.ba (He.ba (He.ba (He.ba (He.ba (He.ba (He.ba (He.ba (He.ba (He.ba (He.ba (tx_more T)).2).2).2).2).2).2).2).2).2).2).2).2).2).2).2).2).2).2).2).1
theorem er_Waiting (T : Tx K mg) : ErrC K (He.ga K "Waiting") := errB_ok (He.ba (He.ba (He.ba (He.ba (He.ba (He.ba (He.ba (He.ba (He.ba (He.ba (He.ba (He.ba (He.ba (He.ba (He.ba (He.ba (He.ba (He.ba (He.ba (He.ba (He.ba (tx_more T)).2).2).2).2).2).2).2).2).2).2).2).2).2).2).2).2).2).2).2).2).1
theorem nf_Waiting (T : Tx K mg) : PySem.W.findIn K (.ref (He.ga K "Waiting")) "scope" = some none := He.eqO_ok (He.ba (He.ba (He.ba (He.ba (He.ba (He.ba (He.ba (He.ba (He.ba (He.ba (He.ba (He.ba (He.ba (He.ba (He.ba (He.ba (He.ba (He.ba (He.ba (He.ba (He.ba (He.ba (tx_more T)).2).2).2).2).2).2).2).2).2).2).2).2).2).2).2).2).2).2).2).2).2).1
theorem er_NoRequest (T : Tx K mg) : ErrC K (He.ga K "NoRequest") := errB_ok (He.ba (He.ba (He.ba (He.ba (He.ba (He.ba (He.ba (He.ba (He.ba (He.ba (He.ba (He.ba (He.ba (He.ba (He.ba (He.ba (He.ba (He.ba (He.ba (He.ba (He.ba (He.ba (He.ba (tx_more T)).2).2).2).2).2).2).2).2).2).2).2).2).2).2).2).2).2).2).2).2).2).2).1
theorem nf_NoRequest (T : Tx K mg) : PySem.W.findIn K (.ref (He.ga K "NoRequest")) "request" = some none := He.eqO_ok (He.ba (He.ba (He.ba (He.ba (He.ba (He.ba (He.ba (He.ba (He.ba (He.ba (He.ba (He.ba (He.ba (He.ba (He.ba (He.ba (He.ba (He.ba (He.ba (He.ba (He.ba (He.ba (He.ba (He.ba (tx_more T)).2).2).2).2).2).2).2).2).2).2).2).2).2).2).2).2).2).2).2).2).2).2).2).1
theorem er_NoWork (T : Tx K mg) : ErrC K (He.ga K "NoWork") := errB_ok (He.ba (He.ba (He.ba (He.ba (He.ba (He.ba (He.ba (He.ba (He.ba (He.ba (He.ba (He.ba (He.ba (He.ba (He.ba (He.ba (He.ba (He.ba (He.ba (He.ba (He.ba (He.ba (He.ba (He.ba (He.ba (tx_more T)).2).2).2).2).2).2).2).2).2).2).2).2).2).2).2).2).2).2).2).2).2).2).2).2).1
theorem nf_NoWork (T : Tx K mg) : PySem.W.findIn K (.ref (He.ga K "NoWork")) "work" = some none := He.eqO_ok (He.ba (He.ba (He.ba (He.ba (He.ba (He.ba (He.ba (He.ba (He.ba (He.ba (He.ba (He.ba (He.ba (He.ba (He.ba (He.ba (He.ba (He.ba (He.ba (He.ba (He.ba (He.ba (He.ba (He.ba (He.ba (He.ba (tx_more T)).2).2).2).2).2).2).2).2).2).2).2).2).2).2).2).2).2).2).2).2).2).2).2).2).2).1
theorem er_BadDeed (T : Tx K mg) : ErrC K (He.ga K "BadDeed") := errB_ok (He.ba (He.ba (He.ba (He.ba (He.ba (He.ba (He.ba (He.ba (He.ba (He.ba (He.ba (He.ba (He.ba (He.ba (He.ba (He.ba (He.ba (He.ba (He.ba (He.ba (He.ba (He.ba (He.ba (He.ba (He.ba (He.ba (He.ba (tx_more T)).2).2).2).2).2).2).2).2).2).2).2).2).2).2).2).2).2).2).2).2).2).2).2).2).2).2).1
theorem nf_BadDeed (T : Tx K mg) : PySem.W.findIn K (.ref (He.ga K "BadDeed")) "at" = some none := He.eqO_ok (He.ba (He.ba (He.ba (He.ba (He.ba (He.ba (He.ba (He.ba (He.ba (He.ba (He.ba (He.ba (He.ba (He.ba (He.ba (He.ba (He.ba (He.ba (He.ba (He.ba (He.ba (He.ba (He.ba (He.ba (He.ba (He.ba (He.ba (He.ba (tx_more T)).2).2).2).2).2).2).2).2).2).2).2).2).2).2).2).2).2).2).2).2).2).2).2).2).2).2).2).1
theorem er_BadFault (T : Tx K mg) : ErrC K (He.ga K "BadFault") := errB_ok (He.ba (He.ba (He.ba (He.ba (He.ba (He.ba (He.ba (He.ba (He.ba (He.ba (He.ba (He.ba (He.ba (He.ba (He.ba (He.ba (He.ba (He.ba (He.ba (He.ba (He.ba (He.ba (He.ba (He.ba (He.ba (He.ba (He.ba (He.ba (He.ba (tx_more T)).2).2).2).2).2).2).2).2).2).2).2).2).2).2).2).2).2).2).2).2).2).2).2).2).2).2).2).2).1
theorem nf_BadFault (T : Tx K mg) : PySem.W.findIn K (.ref (He.ga K "BadFault")) "word" = some none := He.eqO_ok (He.ba (He.ba (He.ba (He.ba (He.ba (He.ba (He.ba (He.ba (He.ba (He.ba (He.ba (He.ba (He.ba (He.ba (He.ba (He.ba (He.ba (He.ba (He.ba (He.ba (He.ba (He.ba (He.ba (He.ba (He.ba (He.ba (He.ba (He.ba (He.ba (He.ba (tx_more T)).2).2).2).2).2).2).2).2).2).2).2).2).2).2).2).2).2).2).2).2).2).2).2).2).2).2).2).2).2).1
theorem er_BadStand (T : Tx K mg) : ErrC K (He.ga K "BadStand") := errB_ok (He.ba (He.ba (He.ba (He.ba (He.ba (He.ba (He.ba (He.ba (He.ba (He.ba (He.ba (He.ba (He.ba (He.ba (He.ba (He.ba (He.ba (He.ba (He.ba (He.ba (He.ba (He.ba (He.ba (He.ba (He.ba (He.ba (He.ba (He.ba (He.ba (He.ba (He.ba (tx_more T)).2).2).2).2).2).2).2).2).2).2).2).2).2).2).2).2).2).2).2).2).2).2).2).2).2).2).2).2).2).2).1
theorem nf_BadStand (T : Tx K mg) : PySem.W.findIn K (.ref (He.ga K "BadStand")) "stand" = some none := He.eqO_ok (He.ba (He.ba (He.ba (He.ba (He.ba (He.ba (He.ba (He.ba (He.ba (He.ba (He.ba (He.ba (He.ba (He.ba (He.ba (He.ba (He.ba (He.ba (He.ba (He.ba (He.ba (He.ba (He.ba (He.ba (He.ba (He.ba (He.ba (He.ba (He.ba (He.ba (He.ba (He.ba (tx_more T)).2).2).2).2).2).2).2).2).2).2).2).2).2).2).2).2).2).2).2).2).2).2).2).2).2).2).2).2).2).2).2).1
theorem er_BadBorder (T : Tx K mg) : ErrC K (He.ga K "BadBorder") := errB_ok (He.ba (He.ba (He.ba (He.ba (He.ba (He.ba (He.ba (He.ba (He.ba (He.ba (He.ba (He.ba (He.ba (He.ba (He.ba (He.ba (He.ba (He.ba (He.ba (He.ba (He.ba (He.ba (He.ba (He.ba (He.ba (He.ba (He.ba (He.ba (He.ba (He.ba (He.ba (He.ba (He.ba (tx_more T)).2).2).2).2).2).2).2).2).2).2).2).2).2).2).2).2).2).2).2).2).2).2).2).2).2).2).2).2).2).2).2).2).1
theorem nf_BadBorder (T : Tx K mg) : PySem.W.findIn K (.ref (He.ga K "BadBorder")) "border" = some none := He.eqO_ok (He.ba (He.ba (He.ba (He.ba (He.ba (He.ba (He.ba (He.ba (He.ba (He.ba (He.ba (He.ba (He.ba (He.ba (He.ba (He.ba (He.ba (He.ba (He.ba (He.ba (He.ba (He.ba (He.ba (He.ba (He.ba (He.ba (He.ba (He.ba (He.ba (He.ba (He.ba (He.ba (He.ba (He.ba (tx_more T)).2).2).2).2).2).2).2).2).2).2).2).2).2).2).2).2).2).2).2).2).2).2).2).2).2).2).2).2).2).2).2).2).2).1
theorem er_BadText (T : Tx K mg) : ErrC K (He.ga K "BadText") := errB_ok (He.ba (He.ba (He.ba (He.ba (He.ba (He.ba (He.ba (He.ba (He.ba (He.ba (He.ba (He.ba (He.ba (He.ba (He.ba (He.ba (He.ba (He.ba (He.ba (He.ba (He.ba (He.ba (He.ba (He.ba (He.ba (He.ba (He.ba (He.ba (He.ba (He.ba (He.ba (He.ba (He.ba (He.ba (He.ba (tx_more T)).2).2).2).2).2).2).2).2).2).2).2).2).2).2).2).2).2).2).2).2).2).2).2).2).2).2).2).2).2).2).2).2).2).2).1
theorem nf_BadText (T : Tx K mg) : PySem.W.findIn K (.ref (He.ga K "BadText")) "line" = some none := He.eqO_ok (He.ba (He.ba (He.ba (He.ba (He.ba (He.ba (He.ba (He.ba (He.ba (He.ba (He.ba (He.ba (He.ba (He.ba (He.ba (He.ba (He.ba (He.ba (He.ba (He.ba (He.ba (He.ba (He.ba (He.ba (He.ba (He.ba (He.ba (He.ba (He.ba (He.ba (He.ba (He.ba (He.ba (He.ba (He.ba (He.ba (tx_more T)).2).2).2).2).2).2).2).2).2).2).2).2).2).2).2).2).2).2).2).2).2).2).2).2).2).2).2).2).2).2).2).2).2).2).2).1
theorem kt01 (T : Tx K mg) : (kitB K) = true := (He.ba (He.ba (He.ba (He.ba (He.ba (He.ba (He.ba (He.ba (He.ba (He.ba (He.ba (He.ba (He.ba (He.ba (He.ba (He.ba (He.ba (He.ba (He.ba (He.ba (He.ba (He.ba (He.ba (He.ba (He.ba (He.ba (He.ba (He.ba (He.ba (He.ba (He.ba (He.ba (He.ba (He.ba (He.ba (He.ba (He.ba (tx_more T)).2).2).2).2).2).2).2).2).2).2).2).2).2).2).2).2).2).2).2).2).2).2).2).2).2).2).2).2).2).2).2).2).2).2).2).2).1
theorem ke01 (T : Tx K mg) : (decide (PySem.W.exmOne K (.ref (He.ga K "Barred")) (.ref (He.ga K "LifeError")) = some true)) = true := (He.ba (He.ba (He.ba (He.ba (He.ba (He.ba (He.ba (He.ba (He.ba (He.ba (He.ba (He.ba (He.ba (He.ba (He.ba (He.ba (He.ba (He.ba (He.ba (He.ba (He.ba (He.ba (He.ba (He.ba (He.ba (He.ba (He.ba (He.ba (He.ba (He.ba (He.ba (He.ba (He.ba (He.ba (He.ba (He.ba (He.ba (tx_more T)).2).2).2).2).2).2).2).2).2).2).2).2).2).2).2).2).2).2).2).2).2).2).2).2).2).2).2).2).2).2).2).2).2).2).2).2).2
end
end HL

namespace HL
open PySem PySem.Spec PyProof.Rows L2

section
variable {P : Program} {w : World} {K : PySem.W.Frag} {mg : Str → Option Value} {base : Heap}
/-! ### the draws -/
def drawKv (lw lc : Addr) (r t : Int) : List (Key × V) := [(.inr "wide", .ref lw), (.inr "cells", .ref lc), (.inr "rest", .int r), (.inr "turn", .int t)]
theorem get_wide {H : Hp} {d lw lc : Addr} {r t : Int} (h : H d = some (.dK (drawKv lw lc r t))) : DGet H d (.str "wide") (some (.ref lw)) := DGet.k (k := .inr "wide") h
theorem get_cells {H : Hp} {d lw lc : Addr} {r t : Int} (h : H d = some (.dK (drawKv lw lc r t))) : DGet H d (.str "cells") (some (.ref lc)) := DGet.k (k := .inr "cells") h
theorem get_rest {H : Hp} {d lw lc : Addr} {r t : Int} (h : H d = some (.dK (drawKv lw lc r t))) : DGet H d (.str "rest") (some (.int r)) := DGet.k (k := .inr "rest") h
theorem get_turn {H : Hp} {d lw lc : Addr} {r t : Int} (h : H d = some (.dK (drawKv lw lc r t))) : DGet H d (.str "turn") (some (.int t)) := DGet.k (k := .inr "turn") h
theorem put_rest {H : Hp} {d lw lc : Addr} {r t z : Int} (h : H d = some (.dK (drawKv lw lc r t))) : DPut H d (.str "rest") (.int z) (upd H d (.dK (drawKv lw lc z t))) := DPut.k (k := .inr "rest") h (by show 4 < sizeLine; decide)
theorem put_turn {H : Hp} {d lw lc : Addr} {r t z : Int} (h : H d = some (.dK (drawKv lw lc r t))) : DPut H d (.str "turn") (.int z) (upd H d (.dK (drawKv lw lc r z))) := DPut.k (k := .inr "turn") h (by show 4 < sizeLine; decide)
def primes : List V := [.int 2147483629, .int 2147483587, .int 2147483579, .int 2147483563]
theorem primes_at {i : Nat} {x : V} (h : primes[i]? = some x) : ∃ p : Int, x = .int p ∧ 0 < p ∧ p < 2147483648 := by
  have m : x ∈ primes := List.mem_of_getElem? h
  simp only [primes, List.mem_cons, List.not_mem_nil, or_false] at m
  rcases m with rfl | rfl | rfl | rfl
  all_goals exact ⟨_, rfl, by decide, by decide⟩
theorem ints_at {ns : List Int} {i : Nat} {x : V} (h : (ns.map V.int)[i]? = some x) : ∃ n : Int, x = .int n ∧ n ∈ ns := by
  obtain ⟨n, hn, e⟩ := List.mem_map.mp (List.mem_of_getElem? h)
  exact ⟨n, e.symm, hn⟩
def spMixed : Sp := fun vs H Q _ => ∃ (d lw lc : Addr) (r t : Int) (cs : List Int), vs = [.ref d] ∧ 0 ≤ t ∧ t ≤ 1099511627776 ∧ H d = some (.dK (drawKv lw lc r t)) ∧ H lc = some (.lst (cs.map V.int)) ∧
  ∀ (n : Int) (H' : Hp), Same (upd H d (.dK (drawKv lw lc r (t + 1)))) H' → Q (.int n) H'
theorem has_mixed (T : Tx K mg) : Has P w K mg base "_law_mixed" 1 ["_law_draw"] spMixed := by
  refine has_of (k := 0) (g_law_mixed T) (d_law_mixed T) sc_law_mixed (fun _ _ _ _ _ _ us hl => match us, hl with | [_], _ => rfl) (fun vs H Q E h => ?_) (fun cdv A outer s H vs Q E hr h => ?_)
  · obtain ⟨d, lw, lc, r, t, cs, rfl, _⟩ := h
    rfl
  · obtain ⟨d, lw, lc, r, t, cs, rfl, ht0, ht1, hd, hc, k⟩ := h
    have hu := hu_of hr
    refine ⟨_, (pss_cons (ps_par (i := 1) (j := 2) (by rfl) sc_law_mixed.nd rfl rfl (by decide) rfl rfl (pa_cons (pe_op op_add (pe_dget hu (pv 0) pe_str (fun _ _ => rfl)) pe_int) (pa_cons pe_int pa_nil)) (by rfl)) (pss_cons (ps_dput hu (pv 0) pe_str (pv 1) rfl) (pss_cons (ps_for PassesOwn.never rfl (pi_list (pe_lst (pa_cons pe_int (pa_cons pe_int (pa_cons pe_int (pa_cons pe_int pa_nil)))))) (pg_name (i := 3) sc_law_mixed.nd rfl (Or.inl rfl)) (pss_cons (ps_set (i := 4) sc_law_mixed.nd rfl (Or.inl rfl) (pe_op op_add (pe_op op_mul pe_int (pv 1)) (pe_op op_fdiv (pv 3) pe_int))) (pss_cons (ps_for PassesOwn.never rfl (pi_list (pe_dget hu (pv 0) pe_str (fun _ _ => rfl))) (pg_name (i := 5) sc_law_mixed.nd rfl (Or.inl rfl)) (pss_one (ps_set (i := 4) sc_law_mixed.nd rfl (Or.inl rfl) (pe_op op_mod (pe_callTy call_int1 (by rfl) (m_int T) boot_int (pa_cons (pe_op op_add (pe_op op_add (pe_op op_mul (pv 4) pe_int) (pv 5)) (pv 1)) pa_nil)) (pv 3))))) (pss_one (ps_set (i := 2) sc_law_mixed.nd rfl (Or.inl rfl) (pe_op op_add (pe_op op_mul (pv 2) pe_int) (pe_op op_mod (pe_callTy call_int1 (by rfl) (m_int T) boot_int (pa_cons (pe_op op_pow (pv 4) pe_int) pa_nil)) (pv 3)))))))) (pss_one (ps_ret (pv 2)))))), ?_⟩
    refine ⟨_, rfl, d, _, rfl, get_turn hd, _, _, rfl, rfl, _, _, rfl, ?_⟩
    refine ⟨_, rfl, _, rfl, d, _, rfl, put_turn hd, ?_⟩
    have ncd : lc ≠ d := ne_of hc hd (by intro z; cases z)
    generalize hH1 : upd H d (.dK (drawKv lw lc r (t + 1))) = H1
    have h1d : H1 d = some (.dK (drawKv lw lc r (t + 1))) := by
      rw [← hH1]
      exact upd_same
    have h1c : H1 lc = some (.lst (cs.map V.int)) := by
      rw [← hH1, upd_ne ncd]
      exact hc
    refine ⟨by decide, fun l hl => ?_⟩
    have s2 : Same H1 (upd H1 l (.lst primes)) := same_new hl
    refine ⟨l, rfl, ⟨_, SqL.of upd_same⟩, for_list (K := K) (a := l) (xs := primes) (fun i σ H' => ∃ (f : Int) (p b c : Option V), σ = [some (.ref d), some (.int (t + 1)), some (.int f), p, b, c] ∧ H' = upd H1 l (.lst primes)) ⟨0, none, none, none, rfl, rfl⟩ ?_ ?_ ?_⟩
    · rintro i σ H' _ ⟨_, _, _, _, _, rfl⟩
      exact SqL.of upd_same
    · rintro i x σ H' hx ⟨f, p, b, c, rfl, rfl⟩
      obtain ⟨q, rfl, hq0, hq1⟩ := primes_at hx
      refine ⟨_, rfl, _, _, rfl, rfl, .inl ⟨by decide, by decide⟩, _, rfl, _, _, rfl, rfl, ⟨by decide, by decide⟩, _, _, rfl, rfl, ?_⟩
      have hb0 : (0 : Int) ≤ 61441 * (t + 1) + q / 19 ∧ 61441 * (t + 1) + q / 19 < 18446744073709551616 := by
        have := Int.ediv_nonneg (Int.le_of_lt hq0) (show (0 : Int) ≤ 19 by decide)
        have : q / 19 ≤ q := Int.ediv_le_self _ (Int.le_of_lt hq0)
        omega
      refine ⟨_, rfl, d, _, rfl, get_cells (s2 _ _ h1d), lc, rfl, ⟨_, SqL.of (s2 _ _ h1c)⟩, for_list (K := K) (a := lc) (xs := cs.map V.int) (fun i σ H' => ∃ (b : Int) (c : Option V), σ = [some (.ref d), some (.int (t + 1)), some (.int f), some (.int q), some (.int b), c] ∧ 0 ≤ b ∧ b < 18446744073709551616 ∧ H' = upd H1 l (.lst primes)) ⟨_, _, rfl, hb0.1, hb0.2, rfl⟩ ?_ ?_ ?_⟩
      · rintro i σ H' _ ⟨_, _, _, _, _, rfl⟩
        exact SqL.of (s2 _ _ h1c)
      · rintro i x σ H' hx ⟨b, c, rfl, hb1, hb2, rfl⟩
        obtain ⟨z, rfl, _⟩ := ints_at hx
        refine ⟨_, rfl, _, _, rfl, rfl, .inr ⟨by decide, by decide⟩, _, rfl, _, _, rfl, rfl, _, rfl, _, _, rfl, rfl, .inl ⟨_, rfl, ?_⟩⟩
        refine ⟨_, rfl, _, _, rfl, rfl, hq0, ?_⟩
        refine ⟨_, _, rfl, Int.emod_nonneg _ (by omega), ?_, rfl⟩
        have := Int.emod_lt_of_pos (b * 48271 + z + (t + 1)) hq0
        omega
      · rintro σ H' ⟨b, c, rfl, hb1, hb2, rfl⟩
        refine ⟨_, rfl, _, _, rfl, rfl, .inr ⟨by decide, by decide⟩, _, rfl, _, _, rfl, rfl, ⟨by decide, by decide, by show b.natAbs < 2 ^ 64; omega⟩, .inl ⟨_, rfl, ?_⟩⟩
        refine ⟨_, rfl, _, _, rfl, rfl, hq0, _, _, rfl, rfl, ?_⟩
        exact ⟨_, _, _, _, rfl, rfl⟩
    · rintro σ H' ⟨f, p, b, c, rfl, rfl⟩
      exact ⟨_, rfl, k _ _ (by rw [hH1]; exact s2)⟩

def spTakeC : Sp := fun vs H Q _ => ∃ (d lw lc : Addr) (r t : Int) (ws cs : List Int) (n : Int), vs = [.ref d, .int n] ∧ 0 < n ∧ n < 1073741824 ∧ 0 ≤ t ∧ t ≤ 1099511627776 ∧ H d = some (.dK (drawKv lw lc r t)) ∧
  H lw = some (.lst (ws.map V.int)) ∧ H lc = some (.lst (cs.map V.int)) ∧ lw ≠ lc ∧ ws.length ≤ 100 ∧
  ∀ (k r' t' : Int) (ws' : List Int) (H' : Hp), 0 ≤ k → k < n → 0 ≤ t' → t' ≤ t + 1 → ws'.length ≤ 100 → H' d = some (.dK (drawKv lw lc r' t')) → H' lw = some (.lst (ws'.map V.int)) → H' lc = some (.lst (cs.map V.int)) →
    (∀ b o, b ≠ d → b ≠ lw → H b = some o → H' b = some o) → Q (.int k) H'
theorem has_takeC (T : Tx K mg) : Has P w K mg base "_law_take" 2 ["_law_draw", "_law_size"] spTakeC := by
  have h_law_mixed : Has P w K mg base "_law_mixed" 1 ["_law_draw"] spMixed := has_mixed T
  refine has_of (k := 1) (g_law_take T) (d_law_take T) sc_law_take (fun _ _ _ _ _ _ us hl => match us, hl with | [_, _], _ => rfl) (fun vs H Q E h => ?_) (fun cdv A outer s H vs Q E hr h => ?_)
  · obtain ⟨d, lw, lc, r, t, ws, cs, n, rfl, _⟩ := h
    rfl
  · obtain ⟨d, lw, lc, r, t, ws, cs, n, rfl, hn0, hn1, ht0, ht1, hd, hw, hc, nwc, hl, k⟩ := h
    have hu := hu_of hr
    have nwd : lw ≠ d := ne_of hw hd (by intro z; cases z)
    have ncd : lc ≠ d := ne_of hc hd (by intro z; cases z)
    refine ⟨_, (Evl.pss_cut (ps_if (pt_cmpR op_eq (pe_dget hu (pv 0) pe_str (fun _ _ => rfl)) pe_int (nomark _)) (pss_one (ps_dput hu (pv 0) pe_str (pe_ifExp (pt_cmpR (op_neNil hr.units) (pe_dget hu (pv 0) pe_str (fun _ _ => rfl)) (pe_lst pa_nil) (nomark _)) (pe_bm PySem.F.plainAttrs_list PySem.F.slot_list_pop PySem.F.type_list_pop mt_popAt (pe_dget hu (pv 0) pe_str (fun _ _ => rfl)) (pa_cons pe_int pa_nil)) (pe_has h_law_mixed (hr.mono (by decide)) rfl (pa_cons (pv 0) pa_nil))) rfl)) pss_nil) (pss_cons (ps_set (i := 2) sc_law_take.nd rfl (Or.inl rfl) (pe_op op_mod (pe_callTy call_int1 (by rfl) (m_int T) boot_int (pa_cons (pe_dget hu (pv 0) pe_str (fun _ _ => rfl)) pa_nil)) (pv 1))) (pss_cons (ps_dput hu (pv 0) pe_str (pe_op op_fdiv (pe_dget hu (pv 0) pe_str (fun _ _ => rfl)) (pv 1)) rfl) (pss_one (ps_ret (pv 2)))))), ?_⟩
    refine ⟨fun σ' H' => σ' = [some (.ref d), some (.int n), none] ∧ ∃ (r' t' : Int) (ws' : List Int), 0 ≤ t' ∧ t' ≤ t + 1 ∧ ws'.length ≤ 100 ∧ H' d = some (.dK (drawKv lw lc r' t')) ∧ H' lw = some (.lst (ws'.map V.int)) ∧ H' lc = some (.lst (cs.map V.int)) ∧ ∀ b o, b ≠ d → b ≠ lw → H b = some o → H' b = some o, ?_, ?_⟩
    · refine ⟨_, rfl, d, _, rfl, get_rest hd, rfl, _, rfl, ?_⟩
      refine ite2 (fun _ => ?_) (fun _ => ⟨rfl, r, t, ws, ht0, by omega, hl, hd, hw, hc, fun b o _ _ e => e⟩)
      refine ⟨_, rfl, d, _, rfl, get_wide hd, by decide, fun l hl0 => ?_⟩
      have s1 : Same H (upd H l (.lst [])) := same_new hl0
      refine ⟨lw, l, _, rfl, rfl, SqL.of (s1 _ _ hw), SqL.of upd_same, _, rfl, ?_⟩
      cases ws with
      | nil =>
        refine iteF ⟨_, rfl, d, lw, lc, r, t, cs, rfl, ht0, ht1, s1 _ _ hd, s1 _ _ hc, fun n H' sm => ?_⟩
        have s2 : ∀ b o, b ≠ d → H b = some o → H' b = some o := fun b o nb e => sm b o (by rw [upd_ne nb]; exact s1 _ _ e)
        refine ⟨_, rfl, d, _, rfl, put_rest (sm _ _ upd_same), rfl, n, t + 1, [], by omega, by omega, by decide, upd_same, ?_, ?_, fun b o nb nw e => ?_⟩
        · rw [upd_ne nwd]
          exact s2 _ _ nwd hw
        · rw [upd_ne ncd]
          exact s2 _ _ ncd hc
        · rw [upd_ne nb]
          exact s2 _ _ nb e
      | cons z zs =>
        refine iteT ⟨_, rfl, d, _, rfl, get_wide (s1 _ _ hd), .inl ⟨rfl, _, SqL.of (s1 _ _ hw)⟩, lw, _, 0, 0, _, rfl, rfl, s1 _ _ hw, by decide, by decide, sIx_nat (i := 0) (by simp), rfl, ?_⟩
        refine ⟨_, rfl, d, _, rfl, put_rest (r := r) (t := t) (by rw [upd_ne nwd.symm]; exact s1 _ _ hd), rfl, z, t, zs, ht0, by omega, ?_, upd_same, ?_, ?_, fun b o nb nw e => ?_⟩
        · simp only [List.length_cons] at hl
          omega
        · rw [upd_ne nwd]
          exact upd_same
        · rw [upd_ne ncd, upd_ne nwc.symm]
          exact s1 _ _ hc
        · rw [upd_ne nb, upd_ne nw]
          exact s1 _ _ e
    · rintro σ' H' ⟨rfl, r', t', ws', h1, h2, h3, h4, h5, h6, h7⟩
      refine ⟨_, rfl, d, _, rfl, get_rest h4, .inl ⟨_, rfl, _, rfl, _, _, rfl, rfl, hn0, ?_⟩⟩
      refine ⟨_, rfl, d, _, rfl, get_rest h4, _, rfl, _, _, rfl, rfl, ⟨hn0, hn1⟩, _, rfl, d, _, rfl, put_rest h4, ?_⟩
      refine ⟨_, rfl, k _ _ _ ws' _ (Int.emod_nonneg _ (by omega)) (Int.emod_lt_of_pos _ hn0) h1 h2 h3 upd_same ?_ ?_ fun b o nb nw e => ?_⟩
      · rw [upd_ne nwd]
        exact h5
      · rw [upd_ne ncd]
        exact h6
      · rw [upd_ne nb]
        exact h7 b o nb nw e

/-! ### the draw, its content left open: n bounds its turns -/
def SDraw (n : Nat) (lw lc : Addr) : HO → Prop := fun o => ∃ r t : Int, 0 ≤ t ∧ t ≤ n ∧ o = .dK (drawKv lw lc r t)
def SInts : HO → Prop := fun o => ∃ ns : List Int, ns.length ≤ 100 ∧ o = .lst (ns.map V.int)
theorem flatD {n : Nat} {lw lc : Addr} : Flat (SDraw n lw lc) := fun o ⟨_, _, _, _, e⟩ => .inr ⟨_, e⟩
theorem flatI : Flat SInts := fun o ⟨_, _, e⟩ => .inl ⟨_, e⟩
def Dr (P : Program) (w : World) (n : Nat) (H : Hp) (d : Addr) : Prop := ∃ (m : Nat) (lw lc : Addr), m ≤ n ∧ lw ≠ d ∧ lc ≠ d ∧ lw ≠ lc ∧
  H d = some (some_ P w (SDraw m lw lc) d) ∧ H lw = some (some_ P w SInts lw) ∧ H lc = some (some_ P w SInts lc)
theorem Dr.mono {n m : Nat} {H : Hp} {d : Addr} (h : Dr P w n H d) (e : n ≤ m) : Dr P w m H d := by
  obtain ⟨k, lw, lc, h1, h⟩ := h
  exact ⟨k, lw, lc, Nat.le_trans h1 e, h⟩
theorem Dr.same {n : Nat} {H H' : Hp} {d : Addr} (h : Dr P w n H d) (e : Same H H') : Dr P w n H' d := by
  obtain ⟨k, lw, lc, h1, h2, h3, h4, h5, h6, h7⟩ := h
  exact ⟨k, lw, lc, h1, h2, h3, h4, e _ _ h5, e _ _ h6, e _ _ h7⟩
/-- all but the draw's own dict stays -/
def SmD (d : Addr) (H H' : Hp) : Prop := ∀ b o, b ≠ d → H b = some o → H' b = some o
theorem SmD.refl {d : Addr} {H : Hp} : SmD d H H := fun _ _ _ e => e
theorem SmD.trans {d : Addr} {H H1 H2 : Hp} (a : SmD d H H1) (b : SmD d H1 H2) : SmD d H H2 := fun c o n e => b c o n (a c o n e)
theorem SmD.of {d : Addr} {H H' : Hp} (e : Same H H') : SmD d H H' := fun b o _ h => e b o h
def spTake (P : Program) (w : World) : Sp := fun vs H Q _ => ∃ (n : Nat) (d : Addr) (z : Int), vs = [.ref d, .int z] ∧ 0 < z ∧ z < 1073741824 ∧ n < 1099511627776 ∧ Dr P w n H d ∧
  ∀ (k : Int) (H' : Hp), 0 ≤ k → k < z → SmD d H H' → Dr P w (n + 1) H' d → Q (.int k) H'
theorem has_take (T : Tx K mg) : Has P w K mg base "_law_take" 2 ["_law_draw", "_law_size"] (spTake P w) := by
  refine (has_takeC T).open.open.open.imp fun vs H Q E h => ?_
  obtain ⟨n, d, z, rfl, hz0, hz1, hn, ⟨m, lw, lc, hm, nwd, ncd, nwc, hd, hw, hc⟩, k⟩ := h
  refine ⟨rfl, d, SDraw m lw lc, SDraw (m + 1) lw lc, flatD, flatD, hd, fun o1 ⟨r, t, ht0, ht1, e1⟩ => ⟨rfl, lw, SInts, SInts, flatI, flatI, by rw [upd_ne nwd]; exact hw, fun o2 ⟨ws, hws, e2⟩ => ⟨rfl, lc, SInts, SInts, flatI, flatI, by rw [upd_ne nwc.symm, upd_ne ncd]; exact hc, fun o3 ⟨cs, hcs, e3⟩ => ?_⟩⟩⟩
  subst e1 e2 e3
  have at_d : upd (upd (upd H d (.dK (drawKv lw lc r t))) lw (.lst (ws.map V.int))) lc (.lst (cs.map V.int)) d = some (.dK (drawKv lw lc r t)) := by
    rw [upd_ne ncd.symm, upd_ne nwd.symm, upd_same]
  refine ⟨d, lw, lc, r, t, ws, cs, z, rfl, hz0, hz1, ht0, by omega, at_d, by rw [upd_ne nwc, upd_same], upd_same, nwc, hws, fun kk r' t' ws' H' k0 k1 t0 t1 hl hd' hw' hc' rest => ?_⟩
  refine ⟨_, ⟨cs, hcs, rfl⟩, hc', _, ⟨ws', hl, rfl⟩, by rw [upd_ne nwc]; exact hw', _, ⟨r', t', t0, by omega, rfl⟩, by rw [upd_ne nwd.symm, upd_ne ncd.symm]; exact hd', k _ _ k0 k1 (fun b o nb e => ?_) ?_⟩
  · rw [upd_ne nb]
    by_cases hb : b = lw
    · subst hb
      rw [upd_same, ← hw]
      exact e
    · rw [upd_ne hb]
      by_cases hb2 : b = lc
      · subst hb2
        rw [upd_same, ← hc]
        exact e
      · rw [upd_ne hb2]
        refine rest b o nb hb ?_
        rw [upd_ne hb2, upd_ne hb, upd_ne nb]
        exact e
  · refine ⟨m + 1, lw, lc, by omega, nwd, ncd, nwc, upd_same, ?_, ?_⟩
    · rw [upd_ne nwd, upd_same]
    · rw [upd_ne ncd, upd_ne nwc.symm, upd_same]

def spBegunC (K : PySem.W.Frag) : Sp := fun vs H Q _ => ∃ (a : Addr) (ns : List Int), vs = [.ref a] ∧ SqL K H a (ns.map V.int) ∧ ns.length ≤ 63 ∧
  ∀ (d lw lc : Addr) (ws cs : List Int) (H' : Hp), Same H H' → H d = none → lw ≠ lc → ws.length ≤ 100 → cs.length ≤ 100 → H' d = some (.dK (drawKv lw lc 0 0)) → H' lw = some (.lst (ws.map V.int)) → H' lc = some (.lst (cs.map V.int)) →
    H lw = none → H lc = none → Q (.ref d) H'
theorem has_begunC (T : Tx K mg) : Has P w K mg base "_law_begun" 1 ["_law_script"] (spBegunC K) := by
  refine has_of (k := 0) (g_law_begun T) (d_law_begun T) sc_law_begun (fun _ _ _ _ _ _ us hl => match us, hl with | [_], _ => rfl) (fun vs H Q E h => ?_) (fun cdv A outer s H vs Q E hr h => ?_)
  · obtain ⟨a, ns, rfl, _⟩ := h
    rfl
  · obtain ⟨a, ns, rfl, hS, hlen, k⟩ := h
    have hu := hu_of hr
    refine ⟨_, (pss_cons (ps_setLc (i := 1) (own := [("_law_cell", 2)]) (g := gName 2) (by rfl) sc_law_begun.nd rfl rfl (sw_true rfl rfl rfl (by decide +kernel)) (pi_list (pv 0)) (blkOk_by (own := [("_law_cell", 2)]) (N := N_law_begun) (sc := defScope s_law_begun) (by decide +kernel)) (fun _ _ _ _ _ => (pg_name (i := 2) sc_law_begun.nd rfl (Or.inl rfl))) (fun _ _ _ _ _ => (pts_one (pt_cmpR op_ge (pe_callB call_abs (by rfl) (m_abs T) boot_abs (pa_cons (pv 2) pa_nil)) (pe_op op_pow pe_int pe_int) (nomark _)))) (fun _ _ _ _ _ => (pe_op op_sub (pe_callB call_abs (by rfl) (m_abs T) boot_abs (pa_cons (pv 2) pa_nil)) (pe_op op_pow pe_int pe_int)))) (pss_one (ps_ret (pe_disp (pps_cons pe_str (pv 1) (pps_cons pe_str (pe_lc (own := [("_law_cell", 2)]) (g := gName 2) (tt := tYes) (by rfl) sc_law_begun.nd (pi_list (pv 0)) (blkOk_by (own := [("_law_cell", 2)]) (N := N_law_begun) (sc := defScope s_law_begun) (by decide +kernel)) (fun _ _ _ _ _ => (pg_name (i := 2) sc_law_begun.nd rfl (Or.inl rfl))) (fun _ _ _ _ _ => pts_nil) (fun _ _ _ _ _ => (pe_op op_mod (pe_callTy call_int1 (by rfl) (m_int T) boot_int (pa_cons (pe_callB call_abs (by rfl) (m_abs T) boot_abs (pa_cons (pv 2) pa_nil)) pa_nil)) pe_int))) (pps_cons pe_str pe_int (pps_cons pe_str pe_int pps_nil)))) (by rfl) (by rfl) (fun z => by cases z) (by decide))))), ?_⟩
    refine ⟨_, rfl, a, rfl, ⟨_, hS⟩, fun lw hlw => lc_list (K := K) (a := a) (xs := ns.map V.int) (fun i H' => ∃ acc : List Int, acc.length ≤ i ∧ H' = upd H lw (.lst (acc.map V.int))) ⟨[], Nat.le_refl _, rfl⟩ ?_ ?_ ?_⟩
    · rintro i H' _ ⟨acc, _, rfl⟩
      exact (same_new hlw).seq hS
    · rintro i x H' hi ⟨acc, hacc, rfl⟩
      obtain ⟨c, rfl, _⟩ := ints_at hi
      have hi2 : i < ns.length := by
        have q := (List.getElem?_eq_some_iff.mp hi).1
        rw [List.length_map] at q
        exact q
      refine ⟨rfl, ?_⟩
      refine ⟨_, rfl, _, rfl, _, _, rfl, rfl, ⟨by decide, by decide, by decide⟩, _, _, rfl, rfl, _, rfl, ?_⟩
      refine ite2 (fun _ => ?_) (fun _ => ⟨acc, by omega, rfl⟩)
      refine ⟨_, rfl, _, rfl, _, _, rfl, rfl, ⟨by decide, by decide, by decide⟩, _, _, rfl, rfl, _, upd_same, ?_, ?_⟩
      · rw [List.length_map]
        exact Nat.lt_of_le_of_lt (by omega : acc.length ≤ 63) (by decide)
      · refine ⟨acc ++ [(if c < 0 then -c else c) - 10 ^ Int.toNat 18], ?_, ?_⟩
        · rw [List.length_append, List.length_singleton]
          omega
        · rw [upd_upd, List.map_append]
          rfl
    · rintro H' ⟨ws, hws, rfl⟩
      rw [List.length_map] at hws
      intro d hd
      have nld : lw ≠ d := fun z => by
        rw [← z, upd_same] at hd
        cases hd
      have hd0 : H d = none := by
        rw [upd_ne nld.symm] at hd
        exact hd
      have s1 : Same H (upd (upd H lw (.lst (ws.map V.int))) d (.dK [])) := same_upd (same_new hlw) hd0
      refine ⟨_, rfl, _, rfl, a, rfl, ⟨_, s1.seq hS⟩, fun lc hlc => lc_list (K := K) (a := a) (xs := ns.map V.int) (fun i H' => ∃ acc : List Int, acc.length ≤ i ∧ H' = upd (upd (upd H lw (.lst (ws.map V.int))) d (.dK [])) lc (.lst (acc.map V.int))) ⟨[], Nat.le_refl _, rfl⟩ ?_ ?_ ?_⟩
      · rintro i H' _ ⟨acc, _, rfl⟩
        exact (same_new hlc).seq (s1.seq hS)
      · rintro i x H' hi ⟨acc, hacc, rfl⟩
        obtain ⟨c, rfl, _⟩ := ints_at hi
        have hi2 : i < ns.length := by
          have q := (List.getElem?_eq_some_iff.mp hi).1
          rw [List.length_map] at q
          exact q
        refine ⟨rfl, yes_ ⟨_, rfl, _, rfl, .inl ⟨_, rfl, _, _, rfl, rfl, (by show (0 : Int) < 2147483629; decide), _, upd_same, ?_, ?_⟩⟩⟩
        · rw [List.length_map]
          exact Nat.lt_of_le_of_lt (by omega : acc.length ≤ 63) (by decide)
        · refine ⟨acc ++ [(if c < 0 then -c else c) % 2147483629], ?_, ?_⟩
          · rw [List.length_append, List.length_singleton]
            omega
          · rw [upd_upd, List.map_append]
            rfl
      · rintro H' ⟨cs, hcs, rfl⟩
        rw [List.length_map] at hcs
        have ncd : lc ≠ d := fun z => by
          rw [z, upd_same] at hlc
          cases hlc
        have ncw : lc ≠ lw := fun z => by
          rw [z, upd_ne nld, upd_same] at hlc
          cases hlc
        have hc0 : H lc = none := by
          rw [upd_ne ncd, upd_ne ncw] at hlc
          exact hlc
        refine ⟨by rw [upd_ne ncd.symm, upd_same], [(.inr "wide", .ref lw), (.inr "cells", .ref lc), (.inr "rest", .int 0), (.inr "turn", .int 0)], rfl, (by show 4 ≤ 15; decide), ?_⟩
        refine k d lw lc ws cs _ (same_upd (same_upd s1 hc0) hd0) hd0 ncw.symm (by omega) (by omega) upd_same ?_ ?_ hlw hc0
        · rw [upd_ne nld, upd_ne ncw.symm, upd_ne nld, upd_same]
        · rw [upd_ne ncd, upd_same]
def spBegun (P : Program) (w : World) (K : PySem.W.Frag) : Sp := fun vs H Q _ => ∃ (a : Addr) (ns : List Int), vs = [.ref a] ∧ SqL K H a (ns.map V.int) ∧ ns.length ≤ 63 ∧ ∀ (d : Addr) (H' : Hp), Same H H' → H d = none → Dr P w 0 H' d → Q (.ref d) H'
theorem has_begun (T : Tx K mg) : Has P w K mg base "_law_begun" 1 ["_law_script"] (spBegun P w K) := by
  refine Has.close (Has.close (Has.close (has_begunC T) (fun vs H Q E h => h)) (fun vs H Q E h => h)) fun vs H Q E h => ?_
  obtain ⟨a, ns, rfl, hS, hlen, k⟩ := h
  refine ⟨a, ns, rfl, hS, hlen, fun d lw lc ws cs H' sm hd nwc hws hcs h1 h2 h3 hw0 hc0 => ?_⟩
  have nwd : lw ≠ d := ne_of h2 h1 (by intro z; cases z)
  have ncd : lc ≠ d := ne_of h3 h1 (by intro z; cases z)
  refine ⟨lc, SInts, _, flatI, ⟨cs, hcs, rfl⟩, h3, lw, SInts, _, flatI, ⟨ws, hws, rfl⟩, by rw [upd_ne nwc]; exact h2, d, SDraw 0 lw lc, _, flatD, ⟨0, 0, by decide, by decide, rfl⟩, by rw [upd_ne nwd.symm, upd_ne ncd.symm]; exact h1, ?_⟩
  refine k d _ (same_upd (same_upd (same_upd sm hc0) hw0) hd) hd ⟨0, lw, lc, Nat.le_refl _, nwd, ncd, nwc, upd_same, ?_, ?_⟩
  · rw [upd_ne nwd, upd_same]
  · rw [upd_ne ncd, upd_ne nwc.symm, upd_same]

theorem Dr.at_ {n : Nat} {H : Hp} {d b : Addr} {o : HO} (h : Dr P w n H d) (e : H b = some o) (ne : ∀ φ, o ≠ .ext φ) : b ≠ d := fun z => by
  obtain ⟨k, lw, lc, h1, h2, h3, h4, h5, h6, h7⟩ := h
  rw [z, h5] at e
  exact ne _ (Option.some.inj e).symm
theorem Dr.kp {n : Nat} {H H' : Hp} {d : Addr} (h : Dr P w n H d) (sm : SmD d H H') : Kp H H' := fun b o ne e => sm b o (h.at_ e ne) e
theorem Dr.live {n : Nat} {H : Hp} {d b : Addr} (h : Dr P w n H d) (e : H b = none) : b ≠ d := fun z => by
  obtain ⟨k, lw, lc, h1, h2, h3, h4, h5, h6, h7⟩ := h
  rw [z, h5] at e
  cases e
/-- a drawn item of a list, a drawn sign of a text -/
def spPick (P : Program) (w : World) (K : PySem.W.Frag) : Sp := fun vs H Q _ => ∃ (n : Nat) (d : Addr), n < 1099511627776 ∧ Dr P w n H d ∧
  ((∃ (p : Addr) (xs : List V), vs = [.ref d, .ref p] ∧ SqL K H p xs ∧ 0 < xs.length ∧ xs.length < 1073741824 ∧ ∀ (i : Nat) (v : V) (H' : Hp), xs[i]? = some v → SmD d H H' → Dr P w (n + 1) H' d → Q v H') ∨
   (∃ (z : Str), vs = [.ref d, .str z] ∧ 0 < z.length ∧ z.length < 1000000 ∧ ∀ (c : Nat) (H' : Hp), c ∈ z.cps.toList → SmD d H H' → Dr P w (n + 1) H' d → Q (.str ⟨#[c]⟩) H'))
theorem atI_of {α : Type} {xs : List α} {k : Int} (h0 : 0 ≤ k) (h1 : k < xs.length) : ∃ v, atI xs k = some v ∧ xs[k.toNat]? = some v := by
  obtain ⟨m, rfl⟩ : ∃ m : Nat, k = m := ⟨k.toNat, by omega⟩
  have lt : m < xs.length := by omega
  exact ⟨xs[m], atI_nat (List.getElem?_eq_getElem lt), List.getElem?_eq_getElem lt⟩
theorem has_pick (T : Tx K mg) : Has P w K mg base "_law_pick" 3 ["_law_draw", "_law_some"] (spPick P w K) := by
  have h_law_take : Has P w K mg base "_law_take" 2 ["_law_draw", "_law_size"] (spTake P w) := has_take T
  refine has_of (k := 2) (g_law_pick T) (d_law_pick T) sc_law_pick (fun _ _ _ _ _ _ us hl => match us, hl with | [_, _], _ => rfl) (fun vs H Q E h => ?_) (fun cdv A outer s H vs Q E hr h => ?_)
  · obtain ⟨n, d, _, _, ⟨p, xs, rfl, _⟩ | ⟨z, rfl, _⟩⟩ := h
    all_goals rfl
  · obtain ⟨n, d, hn, dr, h⟩ := h
    have hu := hu_of hr
    refine ⟨_, (pss_one (ps_ret (pe_ix ix_seq (pv 1) (pe_has h_law_take (hr.mono (by decide)) rfl (pa_cons (pv 0) (pa_cons (pe_callB call_len (by rfl) (m_len T) boot_len (pa_cons (pv 1) pa_nil)) pa_nil))) (fun _ _ => rfl)))), ?_⟩
    rcases h with ⟨p, xs, rfl, hS, h0, h1, k⟩ | ⟨z, rfl, h0, h1, k⟩
    · refine ⟨_, rfl, _, rfl, _, rfl, _, xs.length, rfl, .inl ⟨_, hS, rfl⟩, ?_⟩
      refine ⟨n, d, _, rfl, by omega, by omega, hn, dr, fun i H' i0 i1 sm dr' => ?_⟩
      obtain ⟨v, e1, e2⟩ := atI_of i0 i1
      exact .inl ⟨p, xs, i, v, rfl, rfl, (dr.kp sm).l hS, e1, k _ _ _ e2 sm dr'⟩
    · refine ⟨_, rfl, _, rfl, _, rfl, _, z.length, rfl, ⟨Nat.le_trans (Nat.le_of_lt h1) (by decide), rfl⟩, ?_⟩
      refine ⟨n, d, _, rfl, by omega, by omega, hn, dr, fun i H' i0 i1 sm dr' => ?_⟩
      have le : z.cps.toList.length = z.length := by
        unfold Str.length
        simp
      obtain ⟨v, e1, e2⟩ := atI_of (xs := z.cps.toList) i0 (by rw [le]; exact i1)
      exact .inr (.inr ⟨z, i, v, rfl, rfl, Nat.le_trans (Nat.le_of_lt h1) (by decide), e1, k _ _ (List.mem_of_getElem? e2) sm dr'⟩)
theorem erase_perm {α : Type} : ∀ (xs : List α) (i : Nat) (v : α), xs[i]? = some v → (v :: xs.eraseIdx i).Perm xs
  | [], i, v, h => by simp at h
  | x :: r, 0, v, h => by
    simp only [List.getElem?_cons_zero, Option.some.injEq] at h
    subst h
    exact List.Perm.refl _
  | x :: r, i + 1, v, h => by
    simp only [List.getElem?_cons_succ] at h
    exact (List.Perm.swap _ _ _).trans (List.Perm.cons x (erase_perm r i v h))
theorem Dr.put {n : Nat} {H : Hp} {d b : Addr} {o o' : HO} (h : Dr P w n H d) (e : H b = some o) (ne : ∀ φ, o ≠ .ext φ) : Dr P w n (upd H b o') d := by
  obtain ⟨k, lw, lc, h1, h2, h3, h4, h5, h6, h7⟩ := h
  have at_ : ∀ c φ, H c = some (.ext φ) → c ≠ b := fun c φ q z => by
    rw [z, e] at q
    exact ne _ (Option.some.inj q)
  exact ⟨k, lw, lc, h1, h2, h3, h4, by rw [upd_ne (at_ _ _ h5)]; exact h5, by rw [upd_ne (at_ _ _ h6)]; exact h6, by rw [upd_ne (at_ _ _ h7)]; exact h7⟩
end

end HL

namespace HL
open PySem PySem.Spec PyProof.Rows L2

section
variable {P : Program} {w : World} {K : PySem.W.Frag} {mg : Str → Option Value} {base : Heap}
/-! ### errors, caught -/
theorem ek_BadBook (T : Tx K mg) (B : BaseOk base) : ErrK P w K mg base "BadBook" "field" := by
  obtain ⟨fd, F⟩ := d_BadBook_init T
  refine errk_of (er_BadBook T) (g_BadBook T) (nf_BadBook T) (mi_BadBook T) (F.ok sc_BadBook_init (fun vs H Q E h => ?_) fun cdv A outer s H vs Q E hr h => ?_) (F.bindsN fun _ _ _ _ _ _ us hl => match us, hl with | [_, _], _ => rfl) (kb_err F fun _ _ _ _ _ _ _ _ => rfl)
  · obtain ⟨a, y, rfl, _⟩ := h
    rfl
  · obtain ⟨a, y, rfl, ha, k⟩ := h
    have d : PSs (cxOf CX0 P w K mg base N_BadBook_init "BadBook.__init__" (defScope s_BadBook_init) (mAt "BadBook" "__init__" K) cdv A outer s H E).nox (defBody s_BadBook_init) _ := (pss_cons (ps_expr (pe_leinit rfl (g_LifeError T) B (li_LifeError T) (pa_cons (pv 0) (pa_cons pe_str pa_nil)))) (pss_one (ps_ost (pv 0) (pv 1))))
    exact ⟨_, d.nox, ⟨_, rfl, a, He.ga K "BadBook", _, rfl, by simp, (er_BadBook T).ox, ha, _, rfl, _, rfl, a, He.ga K "BadBook", rfl, (er_BadBook T).ox, nf_BadBook T, .inl ⟨ha, fun d h1 h2 => k d h1 h2⟩⟩⟩
theorem ek_BadPart (T : Tx K mg) (B : BaseOk base) : ErrK P w K mg base "BadPart" "field" := by
  obtain ⟨fd, F⟩ := d_BadPart_init T
  refine errk_of (er_BadPart T) (g_BadPart T) (nf_BadPart T) (mi_BadPart T) (F.ok sc_BadPart_init (fun vs H Q E h => ?_) fun cdv A outer s H vs Q E hr h => ?_) (F.bindsN fun _ _ _ _ _ _ us hl => match us, hl with | [_, _], _ => rfl) (kb_err F fun _ _ _ _ _ _ _ _ => rfl)
  · obtain ⟨a, y, rfl, _⟩ := h
    rfl
  · obtain ⟨a, y, rfl, ha, k⟩ := h
    have d : PSs (cxOf CX0 P w K mg base N_BadPart_init "BadPart.__init__" (defScope s_BadPart_init) (mAt "BadPart" "__init__" K) cdv A outer s H E).nox (defBody s_BadPart_init) _ := (pss_cons (ps_expr (pe_leinit rfl (g_LifeError T) B (li_LifeError T) (pa_cons (pv 0) (pa_cons pe_str pa_nil)))) (pss_one (ps_ost (pv 0) (pv 1))))
    exact ⟨_, d.nox, ⟨_, rfl, a, He.ga K "BadPart", _, rfl, by simp, (er_BadPart T).ox, ha, _, rfl, _, rfl, a, He.ga K "BadPart", rfl, (er_BadPart T).ox, nf_BadPart T, .inl ⟨ha, fun d h1 h2 => k d h1 h2⟩⟩⟩
theorem ek_BadDepth (T : Tx K mg) (B : BaseOk base) : ErrK P w K mg base "BadDepth" "number" := by
  obtain ⟨fd, F⟩ := d_BadDepth_init T
  refine errk_of (er_BadDepth T) (g_BadDepth T) (nf_BadDepth T) (mi_BadDepth T) (F.ok sc_BadDepth_init (fun vs H Q E h => ?_) fun cdv A outer s H vs Q E hr h => ?_) (F.bindsN fun _ _ _ _ _ _ us hl => match us, hl with | [_, _], _ => rfl) (kb_err F fun _ _ _ _ _ _ _ _ => rfl)
  · obtain ⟨a, y, rfl, _⟩ := h
    rfl
  · obtain ⟨a, y, rfl, ha, k⟩ := h
    have d : PSs (cxOf CX0 P w K mg base N_BadDepth_init "BadDepth.__init__" (defScope s_BadDepth_init) (mAt "BadDepth" "__init__" K) cdv A outer s H E).nox (defBody s_BadDepth_init) _ := (pss_cons (ps_expr (pe_leinit rfl (g_LifeError T) B (li_LifeError T) (pa_cons (pv 0) (pa_cons pe_str pa_nil)))) (pss_one (ps_ost (pv 0) (pv 1))))
    exact ⟨_, d.nox, ⟨_, rfl, a, He.ga K "BadDepth", _, rfl, by simp, (er_BadDepth T).ox, ha, _, rfl, _, rfl, a, He.ga K "BadDepth", rfl, (er_BadDepth T).ox, nf_BadDepth T, .inl ⟨ha, fun d h1 h2 => k d h1 h2⟩⟩⟩
theorem ek_BadParts (T : Tx K mg) (B : BaseOk base) : ErrK P w K mg base "BadParts" "name" := by
  obtain ⟨fd, F⟩ := d_BadParts_init T
  refine errk_of (er_BadParts T) (g_BadParts T) (nf_BadParts T) (mi_BadParts T) (F.ok sc_BadParts_init (fun vs H Q E h => ?_) fun cdv A outer s H vs Q E hr h => ?_) (F.bindsN fun _ _ _ _ _ _ us hl => match us, hl with | [_, _], _ => rfl) (kb_err F fun _ _ _ _ _ _ _ _ => rfl)
  · obtain ⟨a, y, rfl, _⟩ := h
    rfl
  · obtain ⟨a, y, rfl, ha, k⟩ := h
    have d : PSs (cxOf CX0 P w K mg base N_BadParts_init "BadParts.__init__" (defScope s_BadParts_init) (mAt "BadParts" "__init__" K) cdv A outer s H E).nox (defBody s_BadParts_init) _ := (pss_cons (ps_expr (pe_leinit rfl (g_LifeError T) B (li_LifeError T) (pa_cons (pv 0) (pa_cons pe_str pa_nil)))) (pss_one (ps_ost (pv 0) (pv 1))))
    exact ⟨_, d.nox, ⟨_, rfl, a, He.ga K "BadParts", _, rfl, by simp, (er_BadParts T).ox, ha, _, rfl, _, rfl, a, He.ga K "BadParts", rfl, (er_BadParts T).ox, nf_BadParts T, .inl ⟨ha, fun d h1 h2 => k d h1 h2⟩⟩⟩
theorem ek_NoPart (T : Tx K mg) (B : BaseOk base) : ErrK P w K mg base "NoPart" "name" := by
  obtain ⟨fd, F⟩ := d_NoPart_init T
  refine errk_of (er_NoPart T) (g_NoPart T) (nf_NoPart T) (mi_NoPart T) (F.ok sc_NoPart_init (fun vs H Q E h => ?_) fun cdv A outer s H vs Q E hr h => ?_) (F.bindsN fun _ _ _ _ _ _ us hl => match us, hl with | [_, _], _ => rfl) (kb_err F fun _ _ _ _ _ _ _ _ => rfl)
  · obtain ⟨a, y, rfl, _⟩ := h
    rfl
  · obtain ⟨a, y, rfl, ha, k⟩ := h
    have d : PSs (cxOf CX0 P w K mg base N_NoPart_init "NoPart.__init__" (defScope s_NoPart_init) (mAt "NoPart" "__init__" K) cdv A outer s H E).nox (defBody s_NoPart_init) _ := (pss_cons (ps_expr (pe_leinit rfl (g_LifeError T) B (li_LifeError T) (pa_cons (pv 0) (pa_cons pe_str pa_nil)))) (pss_one (ps_ost (pv 0) (pv 1))))
    exact ⟨_, d.nox, ⟨_, rfl, a, He.ga K "NoPart", _, rfl, by simp, (er_NoPart T).ox, ha, _, rfl, _, rfl, a, He.ga K "NoPart", rfl, (er_NoPart T).ox, nf_NoPart T, .inl ⟨ha, fun d h1 h2 => k d h1 h2⟩⟩⟩
theorem ek_NoWant (T : Tx K mg) (B : BaseOk base) : ErrK P w K mg base "NoWant" "name" := by
  obtain ⟨fd, F⟩ := d_NoWant_init T
  refine errk_of (er_NoWant T) (g_NoWant T) (nf_NoWant T) (mi_NoWant T) (F.ok sc_NoWant_init (fun vs H Q E h => ?_) fun cdv A outer s H vs Q E hr h => ?_) (F.bindsN fun _ _ _ _ _ _ us hl => match us, hl with | [_, _], _ => rfl) (kb_err F fun _ _ _ _ _ _ _ _ => rfl)
  · obtain ⟨a, y, rfl, _⟩ := h
    rfl
  · obtain ⟨a, y, rfl, ha, k⟩ := h
    have d : PSs (cxOf CX0 P w K mg base N_NoWant_init "NoWant.__init__" (defScope s_NoWant_init) (mAt "NoWant" "__init__" K) cdv A outer s H E).nox (defBody s_NoWant_init) _ := (pss_cons (ps_expr (pe_leinit rfl (g_LifeError T) B (li_LifeError T) (pa_cons (pv 0) (pa_cons pe_str pa_nil)))) (pss_one (ps_ost (pv 0) (pv 1))))
    exact ⟨_, d.nox, ⟨_, rfl, a, He.ga K "NoWant", _, rfl, by simp, (er_NoWant T).ox, ha, _, rfl, _, rfl, a, He.ga K "NoWant", rfl, (er_NoWant T).ox, nf_NoWant T, .inl ⟨ha, fun d h1 h2 => k d h1 h2⟩⟩⟩
theorem ek_Barred (T : Tx K mg) (B : BaseOk base) : ErrK P w K mg base "Barred" "word" := by
  obtain ⟨fd, F⟩ := d_Barred_init T
  refine errk_of (er_Barred T) (g_Barred T) (nf_Barred T) (mi_Barred T) (F.ok sc_Barred_init (fun vs H Q E h => ?_) fun cdv A outer s H vs Q E hr h => ?_) (F.bindsN fun _ _ _ _ _ _ us hl => match us, hl with | [_, _], _ => rfl) (kb_err F fun _ _ _ _ _ _ _ _ => rfl)
  · obtain ⟨a, y, rfl, _⟩ := h
    rfl
  · obtain ⟨a, y, rfl, ha, k⟩ := h
    have d : PSs (cxOf CX0 P w K mg base N_Barred_init "Barred.__init__" (defScope s_Barred_init) (mAt "Barred" "__init__" K) cdv A outer s H E).nox (defBody s_Barred_init) _ := (pss_cons (ps_expr (pe_leinit rfl (g_LifeError T) B (li_LifeError T) (pa_cons (pv 0) (pa_cons pe_str pa_nil)))) (pss_one (ps_ost (pv 0) (pv 1))))
    exact ⟨_, d.nox, ⟨_, rfl, a, He.ga K "Barred", _, rfl, by simp, (er_Barred T).ox, ha, _, rfl, _, rfl, a, He.ga K "Barred", rfl, (er_Barred T).ox, nf_Barred T, .inl ⟨ha, fun d h1 h2 => k d h1 h2⟩⟩⟩
theorem ek_NoScope (T : Tx K mg) (B : BaseOk base) : ErrK P w K mg base "NoScope" "scope" := by
  obtain ⟨fd, F⟩ := d_NoScope_init T
  refine errk_of (er_NoScope T) (g_NoScope T) (nf_NoScope T) (mi_NoScope T) (F.ok sc_NoScope_init (fun vs H Q E h => ?_) fun cdv A outer s H vs Q E hr h => ?_) (F.bindsN fun _ _ _ _ _ _ us hl => match us, hl with | [_, _], _ => rfl) (kb_err F fun _ _ _ _ _ _ _ _ => rfl)
  · obtain ⟨a, y, rfl, _⟩ := h
    rfl
  · obtain ⟨a, y, rfl, ha, k⟩ := h
    have d : PSs (cxOf CX0 P w K mg base N_NoScope_init "NoScope.__init__" (defScope s_NoScope_init) (mAt "NoScope" "__init__" K) cdv A outer s H E).nox (defBody s_NoScope_init) _ := (pss_cons (ps_expr (pe_leinit rfl (g_LifeError T) B (li_LifeError T) (pa_cons (pv 0) (pa_cons pe_str pa_nil)))) (pss_one (ps_ost (pv 0) (pv 1))))
    exact ⟨_, d.nox, ⟨_, rfl, a, He.ga K "NoScope", _, rfl, by simp, (er_NoScope T).ox, ha, _, rfl, _, rfl, a, He.ga K "NoScope", rfl, (er_NoScope T).ox, nf_NoScope T, .inl ⟨ha, fun d h1 h2 => k d h1 h2⟩⟩⟩
theorem ek_Busy (T : Tx K mg) (B : BaseOk base) : ErrK P w K mg base "Busy" "scope" := by
  obtain ⟨fd, F⟩ := d_Busy_init T
  refine errk_of (er_Busy T) (g_Busy T) (nf_Busy T) (mi_Busy T) (F.ok sc_Busy_init (fun vs H Q E h => ?_) fun cdv A outer s H vs Q E hr h => ?_) (F.bindsN fun _ _ _ _ _ _ us hl => match us, hl with | [_, _], _ => rfl) (kb_err F fun _ _ _ _ _ _ _ _ => rfl)
  · obtain ⟨a, y, rfl, _⟩ := h
    rfl
  · obtain ⟨a, y, rfl, ha, k⟩ := h
    have d : PSs (cxOf CX0 P w K mg base N_Busy_init "Busy.__init__" (defScope s_Busy_init) (mAt "Busy" "__init__" K) cdv A outer s H E).nox (defBody s_Busy_init) _ := (pss_cons (ps_expr (pe_leinit rfl (g_LifeError T) B (li_LifeError T) (pa_cons (pv 0) (pa_cons pe_str pa_nil)))) (pss_one (ps_ost (pv 0) (pv 1))))
    exact ⟨_, d.nox, ⟨_, rfl, a, He.ga K "Busy", _, rfl, by simp, (er_Busy T).ox, ha, _, rfl, _, rfl, a, He.ga K "Busy", rfl, (er_Busy T).ox, nf_Busy T, .inl ⟨ha, fun d h1 h2 => k d h1 h2⟩⟩⟩
theorem ek_Waiting (T : Tx K mg) (B : BaseOk base) : ErrK P w K mg base "Waiting" "scope" := by
  obtain ⟨fd, F⟩ := d_Waiting_init T
  refine errk_of (er_Waiting T) (g_Waiting T) (nf_Waiting T) (mi_Waiting T) (F.ok sc_Waiting_init (fun vs H Q E h => ?_) fun cdv A outer s H vs Q E hr h => ?_) (F.bindsN fun _ _ _ _ _ _ us hl => match us, hl with | [_, _], _ => rfl) (kb_err F fun _ _ _ _ _ _ _ _ => rfl)
  · obtain ⟨a, y, rfl, _⟩ := h
    rfl
  · obtain ⟨a, y, rfl, ha, k⟩ := h
    have d : PSs (cxOf CX0 P w K mg base N_Waiting_init "Waiting.__init__" (defScope s_Waiting_init) (mAt "Waiting" "__init__" K) cdv A outer s H E).nox (defBody s_Waiting_init) _ := (pss_cons (ps_expr (pe_leinit rfl (g_LifeError T) B (li_LifeError T) (pa_cons (pv 0) (pa_cons pe_str pa_nil)))) (pss_one (ps_ost (pv 0) (pv 1))))
    exact ⟨_, d.nox, ⟨_, rfl, a, He.ga K "Waiting", _, rfl, by simp, (er_Waiting T).ox, ha, _, rfl, _, rfl, a, He.ga K "Waiting", rfl, (er_Waiting T).ox, nf_Waiting T, .inl ⟨ha, fun d h1 h2 => k d h1 h2⟩⟩⟩
theorem ek_NoRequest (T : Tx K mg) (B : BaseOk base) : ErrK P w K mg base "NoRequest" "request" := by
  obtain ⟨fd, F⟩ := d_NoRequest_init T
  refine errk_of (er_NoRequest T) (g_NoRequest T) (nf_NoRequest T) (mi_NoRequest T) (F.ok sc_NoRequest_init (fun vs H Q E h => ?_) fun cdv A outer s H vs Q E hr h => ?_) (F.bindsN fun _ _ _ _ _ _ us hl => match us, hl with | [_, _], _ => rfl) (kb_err F fun _ _ _ _ _ _ _ _ => rfl)
  · obtain ⟨a, y, rfl, _⟩ := h
    rfl
  · obtain ⟨a, y, rfl, ha, k⟩ := h
    have d : PSs (cxOf CX0 P w K mg base N_NoRequest_init "NoRequest.__init__" (defScope s_NoRequest_init) (mAt "NoRequest" "__init__" K) cdv A outer s H E).nox (defBody s_NoRequest_init) _ := (pss_cons (ps_expr (pe_leinit rfl (g_LifeError T) B (li_LifeError T) (pa_cons (pv 0) (pa_cons pe_str pa_nil)))) (pss_one (ps_ost (pv 0) (pv 1))))
    exact ⟨_, d.nox, ⟨_, rfl, a, He.ga K "NoRequest", _, rfl, by simp, (er_NoRequest T).ox, ha, _, rfl, _, rfl, a, He.ga K "NoRequest", rfl, (er_NoRequest T).ox, nf_NoRequest T, .inl ⟨ha, fun d h1 h2 => k d h1 h2⟩⟩⟩
theorem ek_NoWork (T : Tx K mg) (B : BaseOk base) : ErrK P w K mg base "NoWork" "work" := by
  obtain ⟨fd, F⟩ := d_NoWork_init T
  refine errk_of (er_NoWork T) (g_NoWork T) (nf_NoWork T) (mi_NoWork T) (F.ok sc_NoWork_init (fun vs H Q E h => ?_) fun cdv A outer s H vs Q E hr h => ?_) (F.bindsN fun _ _ _ _ _ _ us hl => match us, hl with | [_, _], _ => rfl) (kb_err F fun _ _ _ _ _ _ _ _ => rfl)
  · obtain ⟨a, y, rfl, _⟩ := h
    rfl
  · obtain ⟨a, y, rfl, ha, k⟩ := h
    have d : PSs (cxOf CX0 P w K mg base N_NoWork_init "NoWork.__init__" (defScope s_NoWork_init) (mAt "NoWork" "__init__" K) cdv A outer s H E).nox (defBody s_NoWork_init) _ := (pss_cons (ps_expr (pe_leinit rfl (g_LifeError T) B (li_LifeError T) (pa_cons (pv 0) (pa_cons pe_str pa_nil)))) (pss_one (ps_ost (pv 0) (pv 1))))
    exact ⟨_, d.nox, ⟨_, rfl, a, He.ga K "NoWork", _, rfl, by simp, (er_NoWork T).ox, ha, _, rfl, _, rfl, a, He.ga K "NoWork", rfl, (er_NoWork T).ox, nf_NoWork T, .inl ⟨ha, fun d h1 h2 => k d h1 h2⟩⟩⟩
theorem ek_BadDeed (T : Tx K mg) (B : BaseOk base) : ErrK P w K mg base "BadDeed" "at" := by
  obtain ⟨fd, F⟩ := d_BadDeed_init T
  refine errk_of (er_BadDeed T) (g_BadDeed T) (nf_BadDeed T) (mi_BadDeed T) (F.ok sc_BadDeed_init (fun vs H Q E h => ?_) fun cdv A outer s H vs Q E hr h => ?_) (F.bindsN fun _ _ _ _ _ _ us hl => match us, hl with | [_, _], _ => rfl) (kb_err F fun _ _ _ _ _ _ _ _ => rfl)
  · obtain ⟨a, y, rfl, _⟩ := h
    rfl
  · obtain ⟨a, y, rfl, ha, k⟩ := h
    have d : PSs (cxOf CX0 P w K mg base N_BadDeed_init "BadDeed.__init__" (defScope s_BadDeed_init) (mAt "BadDeed" "__init__" K) cdv A outer s H E).nox (defBody s_BadDeed_init) _ := (pss_cons (ps_expr (pe_leinit rfl (g_LifeError T) B (li_LifeError T) (pa_cons (pv 0) (pa_cons pe_str pa_nil)))) (pss_one (ps_ost (pv 0) (pv 1))))
    exact ⟨_, d.nox, ⟨_, rfl, a, He.ga K "BadDeed", _, rfl, by simp, (er_BadDeed T).ox, ha, _, rfl, _, rfl, a, He.ga K "BadDeed", rfl, (er_BadDeed T).ox, nf_BadDeed T, .inl ⟨ha, fun d h1 h2 => k d h1 h2⟩⟩⟩
theorem ek_BadFault (T : Tx K mg) (B : BaseOk base) : ErrK P w K mg base "BadFault" "word" := by
  obtain ⟨fd, F⟩ := d_BadFault_init T
  refine errk_of (er_BadFault T) (g_BadFault T) (nf_BadFault T) (mi_BadFault T) (F.ok sc_BadFault_init (fun vs H Q E h => ?_) fun cdv A outer s H vs Q E hr h => ?_) (F.bindsN fun _ _ _ _ _ _ us hl => match us, hl with | [_, _], _ => rfl) (kb_err F fun _ _ _ _ _ _ _ _ => rfl)
  · obtain ⟨a, y, rfl, _⟩ := h
    rfl
  · obtain ⟨a, y, rfl, ha, k⟩ := h
    have d : PSs (cxOf CX0 P w K mg base N_BadFault_init "BadFault.__init__" (defScope s_BadFault_init) (mAt "BadFault" "__init__" K) cdv A outer s H E).nox (defBody s_BadFault_init) _ := (pss_cons (ps_expr (pe_leinit rfl (g_LifeError T) B (li_LifeError T) (pa_cons (pv 0) (pa_cons pe_str pa_nil)))) (pss_one (ps_ost (pv 0) (pv 1))))
    exact ⟨_, d.nox, ⟨_, rfl, a, He.ga K "BadFault", _, rfl, by simp, (er_BadFault T).ox, ha, _, rfl, _, rfl, a, He.ga K "BadFault", rfl, (er_BadFault T).ox, nf_BadFault T, .inl ⟨ha, fun d h1 h2 => k d h1 h2⟩⟩⟩
theorem ek_BadStand (T : Tx K mg) (B : BaseOk base) : ErrK P w K mg base "BadStand" "stand" := by
  obtain ⟨fd, F⟩ := d_BadStand_init T
  refine errk_of (er_BadStand T) (g_BadStand T) (nf_BadStand T) (mi_BadStand T) (F.ok sc_BadStand_init (fun vs H Q E h => ?_) fun cdv A outer s H vs Q E hr h => ?_) (F.bindsN fun _ _ _ _ _ _ us hl => match us, hl with | [_, _], _ => rfl) (kb_err F fun _ _ _ _ _ _ _ _ => rfl)
  · obtain ⟨a, y, rfl, _⟩ := h
    rfl
  · obtain ⟨a, y, rfl, ha, k⟩ := h
    have d : PSs (cxOf CX0 P w K mg base N_BadStand_init "BadStand.__init__" (defScope s_BadStand_init) (mAt "BadStand" "__init__" K) cdv A outer s H E).nox (defBody s_BadStand_init) _ := (pss_cons (ps_expr (pe_leinit rfl (g_LifeError T) B (li_LifeError T) (pa_cons (pv 0) (pa_cons pe_str pa_nil)))) (pss_one (ps_ost (pv 0) (pv 1))))
    exact ⟨_, d.nox, ⟨_, rfl, a, He.ga K "BadStand", _, rfl, by simp, (er_BadStand T).ox, ha, _, rfl, _, rfl, a, He.ga K "BadStand", rfl, (er_BadStand T).ox, nf_BadStand T, .inl ⟨ha, fun d h1 h2 => k d h1 h2⟩⟩⟩
theorem ek_BadBorder (T : Tx K mg) (B : BaseOk base) : ErrK P w K mg base "BadBorder" "border" := by
  obtain ⟨fd, F⟩ := d_BadBorder_init T
  refine errk_of (er_BadBorder T) (g_BadBorder T) (nf_BadBorder T) (mi_BadBorder T) (F.ok sc_BadBorder_init (fun vs H Q E h => ?_) fun cdv A outer s H vs Q E hr h => ?_) (F.bindsN fun _ _ _ _ _ _ us hl => match us, hl with | [_, _], _ => rfl) (kb_err F fun _ _ _ _ _ _ _ _ => rfl)
  · obtain ⟨a, y, rfl, _⟩ := h
    rfl
  · obtain ⟨a, y, rfl, ha, k⟩ := h
    have d : PSs (cxOf CX0 P w K mg base N_BadBorder_init "BadBorder.__init__" (defScope s_BadBorder_init) (mAt "BadBorder" "__init__" K) cdv A outer s H E).nox (defBody s_BadBorder_init) _ := (pss_cons (ps_expr (pe_leinit rfl (g_LifeError T) B (li_LifeError T) (pa_cons (pv 0) (pa_cons pe_str pa_nil)))) (pss_one (ps_ost (pv 0) (pv 1))))
    exact ⟨_, d.nox, ⟨_, rfl, a, He.ga K "BadBorder", _, rfl, by simp, (er_BadBorder T).ox, ha, _, rfl, _, rfl, a, He.ga K "BadBorder", rfl, (er_BadBorder T).ox, nf_BadBorder T, .inl ⟨ha, fun d h1 h2 => k d h1 h2⟩⟩⟩
theorem ek_BadText (T : Tx K mg) (B : BaseOk base) : ErrK P w K mg base "BadText" "line" := by
  obtain ⟨fd, F⟩ := d_BadText_init T
  refine errk_of (er_BadText T) (g_BadText T) (nf_BadText T) (mi_BadText T) (F.ok sc_BadText_init (fun vs H Q E h => ?_) fun cdv A outer s H vs Q E hr h => ?_) (F.bindsN fun _ _ _ _ _ _ us hl => match us, hl with | [_, _], _ => rfl) (kb_err F fun _ _ _ _ _ _ _ _ => rfl)
  · obtain ⟨a, y, rfl, _⟩ := h
    rfl
  · obtain ⟨a, y, rfl, ha, k⟩ := h
    have d : PSs (cxOf CX0 P w K mg base N_BadText_init "BadText.__init__" (defScope s_BadText_init) (mAt "BadText" "__init__" K) cdv A outer s H E).nox (defBody s_BadText_init) _ := (pss_cons (ps_expr (pe_leinit rfl (g_LifeError T) B (li_LifeError T) (pa_cons (pv 0) (pa_cons pe_str pa_nil)))) (pss_one (ps_ost (pv 0) (pv 1))))
    exact ⟨_, d.nox, ⟨_, rfl, a, He.ga K "BadText", _, rfl, by simp, (er_BadText T).ox, ha, _, rfl, _, rfl, a, He.ga K "BadText", rfl, (er_BadText T).ox, nf_BadText T, .inl ⟨ha, fun d h1 h2 => k d h1 h2⟩⟩⟩
def spCaught (K : PySem.W.Frag) : TL → Addr → Sp := fun tl f vs H Q _ => vs = [.ref f] ∧ tl (fun cls d H' => PySem.W.exmOne K cls (.ref (He.ga K "LifeError")) = some true ∧ ∀ a, H' a = none → Q (.ref a) (upd H' a (ErrO a cls d))) H (fun _ H' => Q .non H')
theorem hf_caught (T : Tx K mg) (k0 : Nat) : HF P w K mg base "_law_caught" k0 (k0 + 1) ["_law_job"] (spCaught K) := by
  refine hf_of (k := k0) (g_law_caught T) (d_law_caught T) sc_law_caught (fun _ _ _ _ _ _ us hl => match us, hl with | [_], _ => rfl) (fun tl f vs H Q E h => ?_) (fun cdv A outer s H vs Q E fs0 s0 H0 f c' q tl gd hr ac un hfr hc h => ?_)
  · obtain ⟨rfl, _⟩ := h
    rfl
  · obtain ⟨rfl, h⟩ := h
    refine ⟨_, pss_cons (ps_set (i := 1) sc_law_caught.nd rfl (Or.inl rfl) pe_non) (pss_cons (ps_try_keep (i := 2) (j := 1) rfl rfl sc_law_caught.nd rfl rfl rfl rfl (by show 2 < 3; decide) ⟨rfl, by decide, .inl (g_LifeError T)⟩ (fun W pn xe tk => pss_one (ps_expr (pe_actF (i := 0) ac.cl un hfr rfl hr tk rfl (.inl rfl))))) (pss_one (ps_ret (pv 1)))), ?_⟩
    exact ⟨rfl, hc, _, _, h, fun cls d H' z => ⟨z.1, fun a na => ⟨_, rfl, z.2 a na⟩⟩, fun v H' z => ⟨_, rfl, z⟩⟩
end

end HL

namespace HL
open PySem PySem.Spec PyProof.Rows L2

section
variable {P : Program} {w : World} {K : PySem.W.Frag} {mg : Str → Option Value} {base : Heap}
/-! ### values of any kind -/
theorem smd_none' {n : Nat} {d f : Addr} {H H2 : Hp} (sm : SmD d H H2) (dr : Dr P w n H2 d) (h : H2 f = none) : H f = none := by
  cases q : H f with
  | none => rfl
  | some o =>
    rw [sm f o (dr.live h) q] at h
    cases h
theorem SmD.sm' {d : Addr} {H H1 H2 : Hp} (a : SmD d H H1) (b : Same H1 H2) : SmD d H H2 := fun x o n e => b x o (a x o n e)
def odd17 : List PyData := [.none, .bool true, .bool false, .int (-2), .int 4, .int (10 ^ 30), .str "", .str "use", .str "held", .str "A", .str "abcdefg", .tuple [], .tuple [.int 0], .list [], .list [.int 1], .dict [], .dict [(.int 1, .int 2)]]
def odd9 : List PyData := [.tuple [.str "run", .int 0], .tuple [.str "begin", .int 0], .list [.tuple [.str "run", .int 0]], .str "run 0\n", .tuple [.str "held", .str "a"], .int (-1), .int 0, .int 1, .int 3]
def spOdd (P : Program) (w : World) (K : PySem.W.Frag) : Sp := fun vs H Q _ => ∃ (n : Nat) (d : Addr), vs = [.ref d] ∧ n < 1099511627776 ∧ Dr P w n H d ∧
  ∀ (v : V) (dd : PyData) (H' : Hp), dd ∈ odd17 ++ odd9 → Dq K H' v dd → SmD d H H' → Dr P w (n + 1) H' d → Q v H'
theorem has_odd (T : Tx K mg) : Has P w K mg base "_law_odd" 4 ["_law_draw"] (spOdd P w K) := by
  have h_law_pick : Has P w K mg base "_law_pick" 3 ["_law_draw", "_law_some"] (spPick P w K) := has_pick T
  refine has_of (k := 3) (g_law_odd T) (d_law_odd T) sc_law_odd (fun _ _ _ _ _ _ us hl => match us, hl with | [_], _ => rfl) (fun vs H Q E h => ?_) (fun cdv A outer s H vs Q E hr h => ?_)
  · obtain ⟨n, d, rfl, _⟩ := h
    rfl
  · obtain ⟨n, d, rfl, hn, dr, k⟩ := h
    have sm : SmD d H H := SmD.refl
    refine ⟨_, (pss_cons (ps_set (i := 1) sc_law_odd.nd rfl (Or.inl rfl) (pe_lst (pa_cons pe_non (pa_cons pe_bl (pa_cons pe_bl (pa_cons (pe_un un_neg pe_int) (pa_cons pe_int (pa_cons (pe_op op_pow pe_int pe_int) (pa_cons pe_str (pa_cons pe_str (pa_cons pe_str (pa_cons pe_str (pa_cons pe_str (pa_cons (pe_tup pa_nil) (pa_cons (pe_tup (pa_cons pe_int pa_nil)) (pa_cons (pe_lst pa_nil) (pa_cons (pe_lst (pa_cons pe_int pa_nil)) (pa_cons pe_dnewK (pa_cons (pe_disp (pps_cons pe_int pe_int pps_nil) (by rfl) (by rfl) (fun z => by cases z) (by decide)) pa_nil))))))))))))))))))) (pss_one (ps_ret (pe_has h_law_pick (hr.mono (by decide)) rfl (pa_cons (pv 0) (pa_cons (pe_op op_cat (pv 1) (pe_lst (pa_cons (pe_tup (pa_cons pe_str (pa_cons pe_int pa_nil))) (pa_cons (pe_tup (pa_cons pe_str (pa_cons pe_int pa_nil))) (pa_cons (pe_lst (pa_cons (pe_tup (pa_cons pe_str (pa_cons pe_int pa_nil))) pa_nil)) (pa_cons pe_str (pa_cons (pe_tup (pa_cons pe_str (pa_cons pe_str pa_nil))) (pa_cons (pe_un un_neg pe_int) (pa_cons pe_int (pa_cons pe_int (pa_cons pe_int pa_nil))))))))))) pa_nil)))))), ?_⟩
    refine ⟨_, rfl, ?_⟩
    refine ⟨_, _, rfl, rfl, ⟨by decide, by decide, by decide⟩, ?_⟩
    refine ⟨by simp [sizeLine_eq], fun aa1 qa1 => ?_⟩
    generalize ea1 : upd _ _ _ = Ha1; have sa1 := new_s ea1 qa1; have fa1 := new_f ea1
    have dr := dr.same sa1
    have sm := sm.sm' sa1
    refine ⟨by simp [sizeLine_eq], fun aa2 qa2 => ?_⟩
    generalize ea2 : upd _ _ _ = Ha2; have sa2 := new_s ea2 qa2; have fa2 := new_f ea2
    have fa1 := sa2 _ _ fa1
    have dr := dr.same sa2
    have sm := sm.sm' sa2
    refine ⟨by simp [sizeLine_eq], fun aa3 qa3 => ?_⟩
    generalize ea3 : upd _ _ _ = Ha3; have sa3 := new_s ea3 qa3; have fa3 := new_f ea3
    have fa1 := sa3 _ _ fa1
    have fa2 := sa3 _ _ fa2
    have dr := dr.same sa3
    have sm := sm.sm' sa3
    refine ⟨by simp [sizeLine_eq], fun aa4 qa4 => ?_⟩
    generalize ea4 : upd _ _ _ = Ha4; have sa4 := new_s ea4 qa4; have fa4 := new_f ea4
    have fa1 := sa4 _ _ fa1
    have fa2 := sa4 _ _ fa2
    have fa3 := sa4 _ _ fa3
    have dr := dr.same sa4
    have sm := sm.sm' sa4
    refine fun aa5 qa5 => ?_
    have na1a5 : aa1 ≠ aa5 := ne_of_none fa1 qa5
    have na2a5 : aa2 ≠ aa5 := ne_of_none fa2 qa5
    have na3a5 : aa3 ≠ aa5 := ne_of_none fa3 qa5
    have na4a5 : aa4 ≠ aa5 := ne_of_none fa4 qa5
    have nga5 : H aa5 = none := smd_none' sm dr qa5
    generalize ea5 : upd _ _ _ = Ha5; have sa5 := new_s ea5 qa5; have fa5 := new_f ea5
    have fa1 := sa5 _ _ fa1
    have fa2 := sa5 _ _ fa2
    have fa3 := sa5 _ _ fa3
    have fa4 := sa5 _ _ fa4
    have dr := dr.same sa5
    have sm := sm.sm' sa5
    refine fun aa6 qa6 => ?_
    have na1a6 : aa1 ≠ aa6 := ne_of_none fa1 qa6
    have na2a6 : aa2 ≠ aa6 := ne_of_none fa2 qa6
    have na3a6 : aa3 ≠ aa6 := ne_of_none fa3 qa6
    have na4a6 : aa4 ≠ aa6 := ne_of_none fa4 qa6
    have na5a6 : aa5 ≠ aa6 := ne_of_none fa5 qa6
    have nga6 : H aa6 = none := smd_none' sm dr qa6
    generalize ea6 : upd _ _ _ = Ha6; have sa6 := new_s ea6 qa6; have fa6 := new_f ea6
    have fa1 := sa6 _ _ fa1
    have fa2 := sa6 _ _ fa2
    have fa3 := sa6 _ _ fa3
    have fa4 := sa6 _ _ fa4
    have fa5 := sa6 _ _ fa5
    have dr := dr.same sa6
    have sm := sm.sm' sa6
    refine ⟨fa6, [(.inl 1, .int 2)], rfl, by simp, ?_⟩
    generalize ea7 : upd _ aa6 _ = Ha7; have ma7 : ∀ u o, u ≠ aa6 → _ → Ha7 u = some o := fun u o nu (h : _ = some o) => by rw [← ea7, upd_ne nu]; exact h
    have fa1 := ma7 _ _ na1a6 fa1
    have fa2 := ma7 _ _ na2a6 fa2
    have fa3 := ma7 _ _ na3a6 fa3
    have fa4 := ma7 _ _ na4a6 fa4
    have fa5 := ma7 _ _ na5a6 fa5
    have dr := (show Dr P w n Ha7 d by rw [← ea7]; exact dr.put fa6 (fun _ z => by cases z))
    have sm := (show SmD d H Ha7 from fun b o nb h => ma7 b o (ne_of_none h nga6) (sm b o nb h))
    have fa6 := new_f ea7
    refine ⟨by simp [sizeLine_eq], fun aa8 qa8 => ?_⟩
    generalize ea8 : upd _ _ _ = Ha8; have sa8 := new_s ea8 qa8; have fa8 := new_f ea8
    have fa1 := sa8 _ _ fa1
    have fa2 := sa8 _ _ fa2
    have fa3 := sa8 _ _ fa3
    have fa4 := sa8 _ _ fa4
    have fa5 := sa8 _ _ fa5
    have fa6 := sa8 _ _ fa6
    have dr := dr.same sa8
    have sm := sm.sm' sa8
    have dqa : DqAll K Ha8 [.non, .bl true, .bl false, .int (-2), .int 4, .int (10 ^ 30), .str "", .str "use", .str "held", .str "A", .str "abcdefg", .ref aa1, .ref aa2, .ref aa3, .ref aa4, .ref aa5, .ref aa6] [.none, .bool true, .bool false, .int (-2), .int 4, .int (10 ^ 30), .str "", .str "use", .str "held", .str "A", .str "abcdefg", .tuple [], .tuple [.int 0], .list [], .list [.int 1], .dict [], .dict [(.int 1, .int 2)]] := (DqAll.cons (.non) (DqAll.cons (.bl true) (DqAll.cons (.bl false) (DqAll.cons (.int _) (DqAll.cons (.int _) (DqAll.cons (.int _) (DqAll.cons (.str _) (DqAll.cons (.str _) (DqAll.cons (.str _) (DqAll.cons (.str _) (DqAll.cons (.str _) (DqAll.cons (.tup (.inl (.inl fa1)) DqAll.nil) (DqAll.cons (.tup (.inl (.inl fa2)) (DqAll.cons (.int _) DqAll.nil)) (DqAll.cons (.lst fa3 DqAll.nil) (DqAll.cons (.lst fa4 (DqAll.cons (.int _) DqAll.nil)) (DqAll.cons (.dic fa5 DqPairs.nil) (DqAll.cons (.dic fa6 (DqPairs.cons (.int _) DqPairs.nil)) DqAll.nil)))))))))))))))))
    have fla : Ha8 aa8 = some (.lst [.non, .bl true, .bl false, .int (-2), .int 4, .int (10 ^ 30), .str "", .str "use", .str "held", .str "A", .str "abcdefg", .ref aa1, .ref aa2, .ref aa3, .ref aa4, .ref aa5, .ref aa6]) := fa8
    refine ⟨_, rfl, _, rfl, ?_⟩
    have dqa := dqa
    have ha := fla
    clear fla
    refine ⟨by simp [sizeLine_eq], fun ab1 qb1 => ?_⟩
    generalize eb1 : upd _ _ _ = Hb1; have sb1 := new_s eb1 qb1; have fb1 := new_f eb1
    have dr := dr.same sb1
    have sm := sm.sm' sb1
    have ha := sb1 _ _ ha
    have dqa := dqa.same sb1
    refine ⟨by simp [sizeLine_eq], fun ab2 qb2 => ?_⟩
    generalize eb2 : upd _ _ _ = Hb2; have sb2 := new_s eb2 qb2; have fb2 := new_f eb2
    have fb1 := sb2 _ _ fb1
    have dr := dr.same sb2
    have sm := sm.sm' sb2
    have ha := sb2 _ _ ha
    have dqa := dqa.same sb2
    refine ⟨by simp [sizeLine_eq], fun ab3 qb3 => ?_⟩
    generalize eb3 : upd _ _ _ = Hb3; have sb3 := new_s eb3 qb3; have fb3 := new_f eb3
    have fb1 := sb3 _ _ fb1
    have fb2 := sb3 _ _ fb2
    have dr := dr.same sb3
    have sm := sm.sm' sb3
    have ha := sb3 _ _ ha
    have dqa := dqa.same sb3
    refine ⟨by simp [sizeLine_eq], fun ab4 qb4 => ?_⟩
    generalize eb4 : upd _ _ _ = Hb4; have sb4 := new_s eb4 qb4; have fb4 := new_f eb4
    have fb1 := sb4 _ _ fb1
    have fb2 := sb4 _ _ fb2
    have fb3 := sb4 _ _ fb3
    have dr := dr.same sb4
    have sm := sm.sm' sb4
    have ha := sb4 _ _ ha
    have dqa := dqa.same sb4
    refine ⟨by simp [sizeLine_eq], fun ab5 qb5 => ?_⟩
    generalize eb5 : upd _ _ _ = Hb5; have sb5 := new_s eb5 qb5; have fb5 := new_f eb5
    have fb1 := sb5 _ _ fb1
    have fb2 := sb5 _ _ fb2
    have fb3 := sb5 _ _ fb3
    have fb4 := sb5 _ _ fb4
    have dr := dr.same sb5
    have sm := sm.sm' sb5
    have ha := sb5 _ _ ha
    have dqa := dqa.same sb5
    refine ⟨_, rfl, ?_⟩
    refine ⟨by simp [sizeLine_eq], fun ab6 qb6 => ?_⟩
    generalize eb6 : upd _ _ _ = Hb6; have sb6 := new_s eb6 qb6; have fb6 := new_f eb6
    have fb1 := sb6 _ _ fb1
    have fb2 := sb6 _ _ fb2
    have fb3 := sb6 _ _ fb3
    have fb4 := sb6 _ _ fb4
    have fb5 := sb6 _ _ fb5
    have dr := dr.same sb6
    have sm := sm.sm' sb6
    have ha := sb6 _ _ ha
    have dqa := dqa.same sb6
    have dqb : DqAll K Hb6 [.ref ab1, .ref ab2, .ref ab4, .str "run 0\n", .ref ab5, .int (-1), .int 0, .int 1, .int 3] [.tuple [.str "run", .int 0], .tuple [.str "begin", .int 0], .list [.tuple [.str "run", .int 0]], .str "run 0\n", .tuple [.str "held", .str "a"], .int (-1), .int 0, .int 1, .int 3] := (DqAll.cons (.tup (.inl (.inl fb1)) (DqAll.cons (.str _) (DqAll.cons (.int _) DqAll.nil))) (DqAll.cons (.tup (.inl (.inl fb2)) (DqAll.cons (.str _) (DqAll.cons (.int _) DqAll.nil))) (DqAll.cons (.lst fb4 (DqAll.cons (.tup (.inl (.inl fb3)) (DqAll.cons (.str _) (DqAll.cons (.int _) DqAll.nil))) DqAll.nil)) (DqAll.cons (.str _) (DqAll.cons (.tup (.inl (.inl fb5)) (DqAll.cons (.str _) (DqAll.cons (.str _) DqAll.nil))) (DqAll.cons (.int _) (DqAll.cons (.int _) (DqAll.cons (.int _) (DqAll.cons (.int _) DqAll.nil)))))))))
    have flb : Hb6 ab6 = some (.lst [.ref ab1, .ref ab2, .ref ab4, .str "run 0\n", .ref ab5, .int (-1), .int 0, .int 1, .int 3]) := fb6
    refine ⟨_, _, _, _, rfl, rfl, ha, flb, by simp [sizeLine_eq], fun l ql => ?_⟩
    generalize el : upd _ _ _ = Hl; have sl := new_s el ql; have fl := new_f el
    have dq := dqa_app (dqa.same sl) (dqb.same sl)
    have dr1 := dr.same sl
    refine ⟨n, d, hn, dr1, .inl ⟨l, _, rfl, SqL.of fl, by simp, by simp, fun i v H' hi sm' dr' => ?_⟩⟩
    obtain ⟨dd, hd, q⟩ := dqa_at dq hi
    exact k v dd H' (List.mem_of_getElem? hd) (q.kp (dr1.kp sm')) ((sm.sm' sl).trans sm') dr'
end

end HL

namespace HL
open PySem PySem.Spec PyProof.Rows L2
/-- z * n of a text -/
def strRep (z : Str) (n : Int) : Str := if n < 1 then Str.empty else if (n == 1 || z.length == 0) = true then z else ⟨(List.replicate n.toNat z.cps).foldl (· ++ ·) #[]⟩
def rMulS : R2 := fun x y H Q => ∃ (z : Str) (n : Int), x = .str z ∧ y = .int n ∧ 0 ≤ n ∧ n ≤ 1000 ∧ z.length ≤ 1000 ∧ (strRep z n).length ≤ sizeLine ∧ Q (.str (strRep z n)) H
theorem op_mulS {X : Cx} : OpR X (binaryOp .Mult) rMulS := by
  intro pins s σ H x y v u Q I rx ry h
  obtain ⟨z, n, rfl, rfl, h0, h1, hz, hl, k⟩ := h
  obtain ⟨t, rfl⟩ := rx
  obtain ⟨t2, rfl⟩ := ry
  refine PySem.P.mul_str ?_ (fun h2 _ => ?_) (fun h2 _ => ?_) ?_
  · simp only [Bool.or_eq_false_iff, decide_eq_false_iff_not]
    constructor <;> omega
  · have : (1000 : Int) ≤ (2 ^ 63 - 1) / n := by
      rw [Int.le_ediv_iff_mul_le (by omega)]
      omega
    omega
  · unfold PySem.Builtin.Str.tooLong
    have : z.length * n.toNat ≤ 1000 * 1000 := Nat.mul_le_mul hz (by omega)
    simp only [decide_eq_false_iff_not]
    first | omega | (rw [sizeLine_eq]; omega)
  · unfold strRep at k hl
    by_cases a : n < 1
    · rw [if_pos a] at k hl ⊢
      exact ⟨hl, .str _, H, I.tok _, ⟨_, rfl⟩, k⟩
    · rw [if_neg a] at k hl ⊢
      by_cases b : (n == 1 || z.length == 0) = true
      · rw [if_pos b] at k hl ⊢
        exact ⟨.str _, H, I, ⟨_, rfl⟩, k⟩
      · rw [if_neg b] at k hl ⊢
        exact ⟨hl, .str _, H, I.tok _, ⟨_, rfl⟩, k⟩
end HL

namespace HL
open PySem PySem.Spec PyProof.Rows L2

section
variable {P : Program} {w : World} {K : PySem.W.Frag} {mg : Str → Option Value} {base : Heap}
def spThrown (K : PySem.W.Frag) : Sp := fun vs H _ E => ∃ v, vs = [v] ∧ ∀ d, H d = none → E (.ref (He.ga K "Barred")) (some d) (upd H d (.xd [("word", v)]))
theorem has_thrown (T : Tx K mg) (B : BaseOk base) : HasX P w K mg base "_law_thrown" 3 ["_law_odd_here"] (spThrown K) := by
  refine hasx_of (k := 2) (g_law_thrown T) (d_law_thrown T) sc_law_thrown (fun _ _ _ _ _ _ us hl => match us, hl with | [_], _ => rfl) (fun vs H Q E h => ?_) (fun cdv A outer s H vs Q E hr h => ?_)
  · obtain ⟨v, rfl, _⟩ := h
    rfl
  · obtain ⟨v, rfl, k⟩ := h
    exact ⟨_, (pss_one (ps_raiseE (ek_Barred T B) rfl (takes_of rfl rfl rfl rfl) (hr.mono (by decide)) rfl (pa_cons (pv 0) pa_nil))), ⟨_, rfl, v, rfl, fun d nd => k d nd⟩⟩
def deepD : Nat → PyData
  | 0 => .list []
  | m + 1 => .list [deepD m, .int m]
def anyL : List PyData := [.int (10 ^ 60), .int (-(10 ^ 60)), .dict [(.str "a", .list [.int 1, .tuple [.int 2]])], .tuple [.str "a", .tuple [.str "b", .none]], .str "two\nlines"] ++ ((List.range 60).map fun n : Nat => PyData.str (strRep "A" (n : Int))) ++ (List.range 15).map deepD ++ (odd17 ++ odd9)
def goodB (d : PyData) : Bool := d.showable && (decide (d.depth ≤ 50) && (d.leavesShort 100 && decide (d.bulk ≤ 200)))
structure Shows (d : PyData) : Prop where
  sh : d.showable = true
  dp : d.depth ≤ 60
  ln : d.shown.length ≤ sizeLine
theorem good_one {d : PyData} (h : goodB d = true) : Shows d := by
  obtain ⟨h1, h⟩ := He.ba h
  obtain ⟨h2, h⟩ := He.ba h
  obtain ⟨h3, h4⟩ := He.ba h
  have h2 := of_decide_eq_true h2
  have h4 := of_decide_eq_true h4
  refine ⟨h1, by omega, ?_⟩
  have q := PyData.shown_le_bulk 100 (by decide) d h3
  rw [sizeLine_eq]
  omega
theorem rep_all {d : PyData} (h : goodB d = true) : ∀ n : Nat, PyData.showableAll (List.replicate n d) = true ∧ PyData.depthAll (List.replicate n d) ≤ d.depth ∧ PyData.leavesShortAll 100 (List.replicate n d) = true ∧ PyData.bulkAll (List.replicate n d) = n * (d.bulk + 1)
  | 0 => ⟨rfl, Nat.zero_le _, rfl, by simp [PyData.bulkAll]⟩
  | n + 1 => by
    obtain ⟨h1, h⟩ := He.ba h
    obtain ⟨h2, h⟩ := He.ba h
    obtain ⟨h3, h4⟩ := He.ba h
    obtain ⟨a1, a2, a3, a4⟩ := rep_all (d := d) (by unfold goodB; rw [h1, h2, h3, h4]; rfl) n
    rw [List.replicate_succ]
    refine ⟨by simp [PyData.showableAll, h1, a1], by simp only [PyData.depthAll]; omega, by simp [PyData.leavesShortAll, h3, a3], ?_⟩
    simp only [PyData.bulkAll, a4]
    rw [Nat.add_mul]
    omega
theorem good_rep {d : PyData} (h : goodB d = true) : Shows (.list (List.replicate 17 d)) := by
  obtain ⟨a1, a2, a3, a4⟩ := rep_all h 17
  obtain ⟨h1, h⟩ := He.ba h
  obtain ⟨h2, h⟩ := He.ba h
  obtain ⟨h3, h4⟩ := He.ba h
  have h2 := of_decide_eq_true h2
  have h4 := of_decide_eq_true h4
  refine ⟨by simpa [PyData.showable] using a1, by simp only [PyData.depth]; omega, ?_⟩
  have q := PyData.shown_le_bulk 100 (by decide) (.list (List.replicate 17 d)) (by simpa [PyData.leavesShort] using a3)
  rw [sizeLine_eq]
  simp only [PyData.bulk, a4] at q
  omega
theorem any_good : ∀ d ∈ anyL, goodB d = true := by decide +kernel
theorem rep_len : ∀ n < 60, (strRep "A" ((n : Nat) : Int)).length ≤ sizeLine := by decide +kernel
def spAny (P : Program) (w : World) (K : PySem.W.Frag) : Sp := fun vs H Q _ => ∃ (n : Nat) (d : Addr), vs = [.ref d] ∧ n + 10 < 1099511627776 ∧ Dr P w n H d ∧
  ∀ (v : V) (dd : PyData) (H' : Hp), dd ∈ anyL → Dq K H' v dd → SmD d H H' → Dr P w (n + 4) H' d → Q v H'
theorem has_any (T : Tx K mg) : Has P w K mg base "_law_any" 5 ["_law_draw"] (spAny P w K) := by
  have h_law_take : Has P w K mg base "_law_take" 2 ["_law_draw", "_law_size"] (spTake P w) := has_take T
  have h_law_pick : Has P w K mg base "_law_pick" 3 ["_law_draw", "_law_some"] (spPick P w K) := has_pick T
  have h_law_odd : Has P w K mg base "_law_odd" 4 ["_law_draw"] (spOdd P w K) := has_odd T
  refine has_of (k := 4) (g_law_any T) (d_law_any T) sc_law_any (fun _ _ _ _ _ _ us hl => match us, hl with | [_], _ => rfl) (fun vs H Q E h => ?_) (fun cdv A outer s H vs Q E hr h => ?_)
  · obtain ⟨n, d, rfl, _⟩ := h
    rfl
  · obtain ⟨n, d, rfl, hn, dr, k⟩ := h
    refine ⟨_, (pss_cons (ps_set (i := 1) sc_law_any.nd rfl (Or.inl rfl) (pe_lst pa_nil)) (pss_cons (ps_for PassesOwn.never rfl (pi_range1 (by rfl) (m_range T) (pa_cons (pe_has h_law_take (hr.mono (by decide)) rfl (pa_cons (pv 0) (pa_cons pe_int pa_nil))) pa_nil)) (pg_name (i := 2) sc_law_any.nd rfl (Or.inl rfl)) (pss_one (ps_set (i := 1) sc_law_any.nd rfl (Or.inl rfl) (pe_lst (pa_cons (pv 1) (pa_cons (pv 2) pa_nil)))))) (pss_cons (ps_set (i := 3) sc_law_any.nd rfl (Or.inl rfl) (pe_lst (pa_cons (pe_op op_pow pe_int pe_int) (pa_cons (pe_un un_neg (pe_op op_pow pe_int pe_int)) (pa_cons (pe_op op_mulS pe_str (pe_has h_law_take (hr.mono (by decide)) rfl (pa_cons (pv 0) (pa_cons pe_int pa_nil)))) (pa_cons (pv 1) (pa_cons (pe_disp (pps_cons pe_str (pe_lst (pa_cons pe_int (pa_cons (pe_tup (pa_cons pe_int pa_nil)) pa_nil))) pps_nil) (by rfl) (by rfl) (fun z => by cases z) (by decide)) (pa_cons (pe_tup (pa_cons pe_str (pa_cons (pe_tup (pa_cons pe_str (pa_cons pe_non pa_nil))) pa_nil))) (pa_cons pe_str pa_nil))))))))) (pss_one (ps_ret (pe_has h_law_pick (hr.mono (by decide)) rfl (pa_cons (pv 0) (pa_cons (pe_op op_cat (pv 3) (pe_op op_rep (pe_lst (pa_cons (pe_has h_law_odd (hr.mono (by decide)) rfl (pa_cons (pv 0) pa_nil)) pa_nil)) pe_int)) pa_nil)))))))), ?_⟩
    refine ⟨by decide, fun a1 q1 => ?_⟩
    generalize e1 : upd _ _ _ = H1; have s1 := new_s e1 q1; have f1 := new_f e1
    have dr1 := dr.same s1
    refine ⟨_, rfl, n, d, 15, rfl, by decide, by decide, by omega, dr1, fun m H2 m0 m1 sm2 dr2 => ?_⟩
    obtain ⟨mm, em, hm⟩ : ∃ mm : Nat, m = mm ∧ mm < 15 := ⟨m.toNat, by omega, by omega⟩
    subst em
    refine ⟨mm, rfl, by omega, by omega, ?_⟩
    rw [show Int.toNat (mm : Int) = mm from Int.toNat_natCast mm]
    have sm02 : SmD d H H2 := (SmD.of s1).trans sm2
    refine for_range (fun i σ H' => ∃ (v : V) (o2 o3 : Option V), σ = [some (.ref d), some v, o2, o3] ∧ Dq K H' v (deepD i) ∧ SmD d H H' ∧ Dr P w (n + 1) H' d) ⟨_, _, _, rfl, .lst ((dr1.kp sm2).lst f1) .nil, sm02, dr2⟩ ?_ ?_
    · rintro i σ H3 hi ⟨v, o2, o3, rfl, hv, sm3, dr3⟩
      refine ⟨_, rfl, _, rfl, by simp [sizeLine_eq], fun a4 q4 => ?_⟩
      generalize e4 : upd _ _ _ = H4; have s4 := new_s e4 q4; have f4 := new_f e4
      refine ⟨_, _, _, rfl, ?_, sm3.sm' s4, dr3.same s4⟩
      have e : deepD (i + 1) = .list [deepD i, .int (0 + (i : Int))] := by
        rw [Int.zero_add]
        rfl
      rw [e]
      exact .lst f4 (.cons (hv.same s4) (.cons (.int _) .nil))
    · rintro σ H5 ⟨v, o2, o3, rfl, hv, sm5, dr5⟩
      refine ⟨_, _, rfl, rfl, ⟨by decide, by decide, by decide⟩, _, _, rfl, rfl, ⟨by decide, by decide, by decide⟩, _, rfl, ?_⟩
      refine ⟨_, rfl, n + 1, d, 60, rfl, by decide, by decide, by omega, dr5, fun r H6 r0 r1 sm6 dr => ?_⟩
      obtain ⟨rr, er, hr'⟩ : ∃ rr : Nat, r = rr ∧ rr < 60 := ⟨r.toNat, by omega, by omega⟩
      subst er
      refine ⟨_, _, rfl, rfl, by omega, by omega, by decide, rep_len rr hr', ?_⟩
      have hv6 := hv.kp (dr5.kp sm6)
      have sm06 := sm5.trans sm6
      have sc : Same H6 H6 := Same.refl _
      refine ⟨_, rfl, ?_⟩
      refine fun ac1 qc1 => ?_
      have ngc1 : H6 ac1 = none := same_none sc qc1
      generalize ec1 : upd _ _ _ = Hc1; have sc1 := new_s ec1 qc1; have fc1 := new_f ec1
      have dr := dr.same sc1
      have sc := sc.trans sc1
      refine ⟨by simp [sizeLine_eq], fun ac2 qc2 => ?_⟩
      generalize ec2 : upd _ _ _ = Hc2; have sc2 := new_s ec2 qc2; have fc2 := new_f ec2
      have fc1 := sc2 _ _ fc1
      have dr := dr.same sc2
      have sc := sc.trans sc2
      refine ⟨by simp [sizeLine_eq], fun ac3 qc3 => ?_⟩
      generalize ec3 : upd _ _ _ = Hc3; have sc3 := new_s ec3 qc3; have fc3 := new_f ec3
      have fc1 := sc3 _ _ fc1
      have fc2 := sc3 _ _ fc2
      have dr := dr.same sc3
      have sc := sc.trans sc3
      refine ⟨fc1, [(.inr "a", .ref ac3)], rfl, by simp, ?_⟩
      generalize ec4 : upd _ ac1 _ = Hc4; have mc4 : ∀ u o, u ≠ ac1 → _ → Hc4 u = some o := fun u o nu (h : _ = some o) => by rw [← ec4, upd_ne nu]; exact h
      have fc2 := mc4 _ _ (ne_of fc2 fc1 (by intro z; cases z)) fc2
      have fc3 := mc4 _ _ (ne_of fc3 fc1 (by intro z; cases z)) fc3
      have dr := (show Dr P w (n + 1 + 1) Hc4 d by rw [← ec4]; exact dr.put fc1 (fun _ z => by cases z))
      have sc := (show Same H6 Hc4 from fun b o h => mc4 b o (ne_of_none h ngc1) (sc b o h))
      have fc1 := new_f ec4
      refine ⟨by simp [sizeLine_eq], fun ac5 qc5 => ?_⟩
      generalize ec5 : upd _ _ _ = Hc5; have sc5 := new_s ec5 qc5; have fc5 := new_f ec5
      have fc1 := sc5 _ _ fc1
      have fc2 := sc5 _ _ fc2
      have fc3 := sc5 _ _ fc3
      have dr := dr.same sc5
      have sc := sc.trans sc5
      refine ⟨by simp [sizeLine_eq], fun ac6 qc6 => ?_⟩
      generalize ec6 : upd _ _ _ = Hc6; have sc6 := new_s ec6 qc6; have fc6 := new_f ec6
      have fc1 := sc6 _ _ fc1
      have fc2 := sc6 _ _ fc2
      have fc3 := sc6 _ _ fc3
      have fc5 := sc6 _ _ fc5
      have dr := dr.same sc6
      have sc := sc.trans sc6
      refine ⟨by simp [sizeLine_eq], fun a7 q7 => ?_⟩
      have d1 : Dq K _ _ (.dict [(.str "a", .list [.int 1, .tuple [.int 2]])]) := .dic fc1 (DqPairs.cons (.lst fc3 (DqAll.cons (.int _) (DqAll.cons (.tup (.inl (.inl fc2)) (DqAll.cons (.int _) DqAll.nil)) DqAll.nil))) DqPairs.nil)
      have d2 : Dq K _ _ (.tuple [.str "a", .tuple [.str "b", .none]]) := .tup (.inl (.inl fc6)) (DqAll.cons (.str _) (DqAll.cons (.tup (.inl (.inl fc5)) (DqAll.cons (.str _) (DqAll.cons (.non) DqAll.nil))) DqAll.nil))
      have hv7 := hv6.same sc
      generalize e7 : upd _ _ _ = H7; have s7 := new_s e7 q7; have f7 := new_f e7
      have dqs : DqAll K H7 _ [.int (10 ^ 60), .int (-(10 ^ 60)), .str (strRep "A" rr), deepD mm, .dict [(.str "a", .list [.int 1, .tuple [.int 2]])], .tuple [.str "a", .tuple [.str "b", .none]], .str "two\nlines"] :=
        .cons (.int _) (.cons (.int _) (.cons (.str _) (.cons (hv7.same s7) (.cons (d1.same s7) (.cons (d2.same s7) (.cons (.str _) .nil))))))
      have dr7 := dr.same s7
      have sm7 := (sm06.sm' sc).sm' s7
      clear d1 d2 hv7
      refine ⟨_, rfl, _, rfl, _, rfl, n + 2, d, rfl, by omega, dr7, fun v8 dd8 H8 hd8 hq8 sm8 dr8 => ?_⟩
      have k8 := dr7.kp sm8
      refine ⟨by simp [sizeLine_eq], fun a9 q9 => ?_⟩
      generalize e9 : upd _ _ _ = H9; have s9 := new_s e9 q9; have f9 := new_f e9
      refine ⟨a9, 5, _, rfl, rfl, f9, by decide, by decide, by simp [sizeLine_eq], fun a10 q10 => ?_⟩
      generalize e10 : upd _ _ _ = H10; have s10 := new_s e10 q10; have f10 := new_f e10
      have f10 : H10 a10 = some (.lst [v8, v8, v8, v8, v8]) := f10
      have f7' := s10 _ _ (s9 _ _ (k8.lst f7))
      refine ⟨a7, a10, _, _, rfl, rfl, f7', f10, by simp [sizeLine_eq], fun a11 q11 => ?_⟩
      generalize e11 : upd _ _ _ = H11; have s11 := new_s e11 q11; have f11 := new_f e11
      have hq11 := ((hq8.same s9).same s10).same s11
      have dq := dqa_app ((dqs.kp k8).same ((s9.trans s10).trans s11)) (.cons hq11 (.cons hq11 (.cons hq11 (.cons hq11 (.cons hq11 .nil)))))
      have dr11 := ((dr8.same s9).same s10).same s11
      refine ⟨n + 3, d, by omega, dr11, .inl ⟨a11, _, rfl, SqL.of f11, by simp, by simp, fun i v H' hi sm' dr' => ?_⟩⟩
      obtain ⟨dd, hd, q⟩ := dqa_at dq hi
      refine k v dd H' ?_ (q.kp (dr11.kp sm')) (((((sm7.trans sm8).sm' s9).sm' s10).sm' s11).trans sm') dr'
      have hmem := List.mem_of_getElem? hd
      unfold anyL
      simp only [List.mem_append, List.mem_cons, List.not_mem_nil, or_false, List.mem_map, List.mem_range] at hmem hd8 ⊢
      rcases hmem with (h | h | h | h | h | h | h) | h | h | h | h | h
      · exact .inl (.inl (.inl (.inl h)))
      · exact .inl (.inl (.inl (.inr (.inl h))))
      · exact .inl (.inl (.inr ⟨rr, hr', h.symm⟩))
      · exact .inl (.inr ⟨mm, hm, h.symm⟩)
      · exact .inl (.inl (.inl (.inr (.inr (.inl h)))))
      · exact .inl (.inl (.inl (.inr (.inr (.inr (.inl h))))))
      · exact .inl (.inl (.inl (.inr (.inr (.inr (.inr h))))))
      all_goals
        rw [h]
        exact .inr hd8
end

end HL

namespace HL
open PySem PySem.Spec PyProof.Rows L2

section
variable {P : Program} {w : World} {K : PySem.W.Frag} {mg : Str → Option Value} {base : Heap}
/-- the seventeen errors that keep v, in a list -/
def ErrsAt (K : PySem.W.Frag) (H : Hp) (l : Addr) (v : V) : Prop := ∃ as : List Addr, H l = some (.lst (as.map V.ref)) ∧ Paired (fun (p : Str × Str) a => ErrAt K H p.1 p.2 v a) cls17 as
def spEach (K : PySem.W.Frag) : Sp := fun vs H Q _ => ∃ v, vs = [v] ∧ ∀ (l : Addr) (H' : Hp), Same H H' → ErrsAt K H' l v → Q (.ref l) H'
theorem has_law_each (T : Tx K mg) (B : BaseOk base) : Has P w K mg base "_law_each" 3 ["_law_odd_here"] (spEach K) := by
  refine has_of (k := 2) (g_law_each T) (d_law_each T) sc_law_each (fun _ _ _ _ _ _ us hl => match us, hl with | [_], _ => rfl) (fun vs H Q E h => ?_) (fun cdv A outer s H vs Q E hr h => ?_)
  · obtain ⟨v, rfl, _⟩ := h
    rfl
  · obtain ⟨v, rfl, k⟩ := h
    refine ⟨_, (pss_cons (ps_set (i := 1) sc_law_each.nd rfl (Or.inl rfl) (pe_lst (pa_cons (pe_err (ek_BadBook T B) (hr.mono (by decide)) rfl (pa_cons (pv 0) pa_nil)) (pa_cons (pe_err (ek_BadPart T B) (hr.mono (by decide)) rfl (pa_cons (pv 0) pa_nil)) (pa_cons (pe_err (ek_BadDepth T B) (hr.mono (by decide)) rfl (pa_cons (pv 0) pa_nil)) (pa_cons (pe_err (ek_BadParts T B) (hr.mono (by decide)) rfl (pa_cons (pv 0) pa_nil)) (pa_cons (pe_err (ek_NoPart T B) (hr.mono (by decide)) rfl (pa_cons (pv 0) pa_nil)) (pa_cons (pe_err (ek_NoWant T B) (hr.mono (by decide)) rfl (pa_cons (pv 0) pa_nil)) (pa_cons (pe_err (ek_Barred T B) (hr.mono (by decide)) rfl (pa_cons (pv 0) pa_nil)) pa_nil))))))))) (pss_cons (ps_set (i := 1) sc_law_each.nd rfl (Or.inl rfl) (pe_op op_cat (pv 1) (pe_lst (pa_cons (pe_err (ek_NoScope T B) (hr.mono (by decide)) rfl (pa_cons (pv 0) pa_nil)) (pa_cons (pe_err (ek_Busy T B) (hr.mono (by decide)) rfl (pa_cons (pv 0) pa_nil)) (pa_cons (pe_err (ek_Waiting T B) (hr.mono (by decide)) rfl (pa_cons (pv 0) pa_nil)) (pa_cons (pe_err (ek_NoRequest T B) (hr.mono (by decide)) rfl (pa_cons (pv 0) pa_nil)) (pa_cons (pe_err (ek_NoWork T B) (hr.mono (by decide)) rfl (pa_cons (pv 0) pa_nil)) (pa_cons (pe_err (ek_BadDeed T B) (hr.mono (by decide)) rfl (pa_cons (pv 0) pa_nil)) (pa_cons (pe_err (ek_BadFault T B) (hr.mono (by decide)) rfl (pa_cons (pv 0) pa_nil)) pa_nil)))))))))) (pss_one (ps_ret (pe_op op_cat (pv 1) (pe_lst (pa_cons (pe_err (ek_BadStand T B) (hr.mono (by decide)) rfl (pa_cons (pv 0) pa_nil)) (pa_cons (pe_err (ek_BadBorder T B) (hr.mono (by decide)) rfl (pa_cons (pv 0) pa_nil)) (pa_cons (pe_err (ek_BadText T B) (hr.mono (by decide)) rfl (pa_cons (pv 0) pa_nil)) pa_nil))))))))), ?_⟩
    refine ⟨_, rfl, v, rfl, fun d0 x0 a0 y0 => ?_⟩
    generalize e0 : upd (upd _ _ _) _ _ = H0; obtain ⟨s0, r0, z0⟩ := err_new (K := K) x0 y0 e0
    refine ⟨_, rfl, v, rfl, fun d1 x1 a1 y1 => ?_⟩
    generalize e1 : upd (upd _ _ _) _ _ = H1; obtain ⟨s1, r1, z1⟩ := err_new (K := K) x1 y1 e1
    refine ⟨_, rfl, v, rfl, fun d2 x2 a2 y2 => ?_⟩
    generalize e2 : upd (upd _ _ _) _ _ = H2; obtain ⟨s2, r2, z2⟩ := err_new (K := K) x2 y2 e2
    refine ⟨_, rfl, v, rfl, fun d3 x3 a3 y3 => ?_⟩
    generalize e3 : upd (upd _ _ _) _ _ = H3; obtain ⟨s3, r3, z3⟩ := err_new (K := K) x3 y3 e3
    refine ⟨_, rfl, v, rfl, fun d4 x4 a4 y4 => ?_⟩
    generalize e4 : upd (upd _ _ _) _ _ = H4; obtain ⟨s4, r4, z4⟩ := err_new (K := K) x4 y4 e4
    refine ⟨_, rfl, v, rfl, fun d5 x5 a5 y5 => ?_⟩
    generalize e5 : upd (upd _ _ _) _ _ = H5; obtain ⟨s5, r5, z5⟩ := err_new (K := K) x5 y5 e5
    refine ⟨_, rfl, v, rfl, fun d6 x6 a6 y6 => ?_⟩
    generalize e6 : upd (upd _ _ _) _ _ = H6; obtain ⟨s6, r6, z6⟩ := err_new (K := K) x6 y6 e6
    refine ⟨by simp [sizeLine_eq], fun aL0 qL0 => ?_⟩
    generalize eL0 : upd _ _ _ = HL0; have sL0 := new_s eL0 qL0; have fL0 := new_f eL0
    refine ⟨_, rfl, ?_⟩
    refine ⟨_, rfl, v, rfl, fun d7 x7 a7 y7 => ?_⟩
    generalize e7 : upd (upd _ _ _) _ _ = H7; obtain ⟨s7, r7, z7⟩ := err_new (K := K) x7 y7 e7
    refine ⟨_, rfl, v, rfl, fun d8 x8 a8 y8 => ?_⟩
    generalize e8 : upd (upd _ _ _) _ _ = H8; obtain ⟨s8, r8, z8⟩ := err_new (K := K) x8 y8 e8
    refine ⟨_, rfl, v, rfl, fun d9 x9 a9 y9 => ?_⟩
    generalize e9 : upd (upd _ _ _) _ _ = H9; obtain ⟨s9, r9, z9⟩ := err_new (K := K) x9 y9 e9
    refine ⟨_, rfl, v, rfl, fun d10 x10 a10 y10 => ?_⟩
    generalize e10 : upd (upd _ _ _) _ _ = H10; obtain ⟨s10, r10, z10⟩ := err_new (K := K) x10 y10 e10
    refine ⟨_, rfl, v, rfl, fun d11 x11 a11 y11 => ?_⟩
    generalize e11 : upd (upd _ _ _) _ _ = H11; obtain ⟨s11, r11, z11⟩ := err_new (K := K) x11 y11 e11
    refine ⟨_, rfl, v, rfl, fun d12 x12 a12 y12 => ?_⟩
    generalize e12 : upd (upd _ _ _) _ _ = H12; obtain ⟨s12, r12, z12⟩ := err_new (K := K) x12 y12 e12
    refine ⟨_, rfl, v, rfl, fun d13 x13 a13 y13 => ?_⟩
    generalize e13 : upd (upd _ _ _) _ _ = H13; obtain ⟨s13, r13, z13⟩ := err_new (K := K) x13 y13 e13
    refine ⟨by simp [sizeLine_eq], fun aL2 qL2 => ?_⟩
    generalize eL2 : upd _ _ _ = HL2; have sL2 := new_s eL2 qL2; have fL2 := new_f eL2
    have g1 := sL2 _ _ (s13 _ _ (s12 _ _ (s11 _ _ (s10 _ _ (s9 _ _ (s8 _ _ (s7 _ _ (fL0))))))))
    refine ⟨_, _, _, _, rfl, rfl, g1, fL2, by simp [sizeLine_eq], fun aL3 qL3 => ?_⟩
    generalize eL3 : upd _ _ _ = HL3; have sL3 := new_s eL3 qL3; have fL3 := new_f eL3
    refine ⟨_, rfl, ?_⟩
    refine ⟨_, rfl, v, rfl, fun d14 x14 a14 y14 => ?_⟩
    generalize e14 : upd (upd _ _ _) _ _ = H14; obtain ⟨s14, r14, z14⟩ := err_new (K := K) x14 y14 e14
    refine ⟨_, rfl, v, rfl, fun d15 x15 a15 y15 => ?_⟩
    generalize e15 : upd (upd _ _ _) _ _ = H15; obtain ⟨s15, r15, z15⟩ := err_new (K := K) x15 y15 e15
    refine ⟨_, rfl, v, rfl, fun d16 x16 a16 y16 => ?_⟩
    generalize e16 : upd (upd _ _ _) _ _ = H16; obtain ⟨s16, r16, z16⟩ := err_new (K := K) x16 y16 e16
    refine ⟨by simp [sizeLine_eq], fun aL4 qL4 => ?_⟩
    generalize eL4 : upd _ _ _ = HL4; have sL4 := new_s eL4 qL4; have fL4 := new_f eL4
    have g2 := sL4 _ _ (s16 _ _ (s15 _ _ (s14 _ _ (fL3))))
    refine ⟨_, _, _, _, rfl, rfl, g2, fL4, by simp [sizeLine_eq], fun aL5 qL5 => ?_⟩
    generalize eL5 : upd _ _ _ = HL5; have sL5 := new_s eL5 qL5; have fL5 := new_f eL5
    have c22 := Same.refl HL5
    have c21 := sL5.trans c22
    have c20 := sL4.trans c21
    have c19 := s16.trans c20
    have c18 := s15.trans c19
    have c17 := s14.trans c18
    have c16 := sL3.trans c17
    have c15 := sL2.trans c16
    have c14 := s13.trans c15
    have c13 := s12.trans c14
    have c12 := s11.trans c13
    have c11 := s10.trans c12
    have c10 := s9.trans c11
    have c9 := s8.trans c10
    have c8 := s7.trans c9
    have c7 := sL0.trans c8
    have c6 := s6.trans c7
    have c5 := s5.trans c6
    have c4 := s4.trans c5
    have c3 := s3.trans c4
    have c2 := s2.trans c3
    have c1 := s1.trans c2
    have c0 := s0.trans c1
    exact k _ _ c0 ⟨[a0, a1, a2, a3, a4, a5, a6, a7, a8, a9, a10, a11, a12, a13, a14, a15, a16], fL5, .cons (r0.same c1) (.cons (r1.same c2) (.cons (r2.same c3) (.cons (r3.same c4) (.cons (r4.same c5) (.cons (r5.same c6) (.cons (r6.same c7) (.cons (r7.same c9) (.cons (r8.same c10) (.cons (r9.same c11) (.cons (r10.same c12) (.cons (r11.same c13) (.cons (r12.same c14) (.cons (r13.same c15) (.cons (r14.same c18) (.cons (r15.same c19) (.cons (r16.same c20) (.nil)))))))))))))))))⟩
theorem has_law_named (T : Tx K mg) (B : BaseOk base) : Has P w K mg base "_law_named" 3 ["_law_odd_here"] (spEach K) := by
  refine has_of (k := 2) (g_law_named T) (d_law_named T) sc_law_named (fun _ _ _ _ _ _ us hl => match us, hl with | [_], _ => rfl) (fun vs H Q E h => ?_) (fun cdv A outer s H vs Q E hr h => ?_)
  · obtain ⟨v, rfl, _⟩ := h
    rfl
  · obtain ⟨v, rfl, k⟩ := h
    refine ⟨_, (pss_cons (ps_set (i := 1) sc_law_named.nd rfl (Or.inl rfl) (pe_lst (pa_cons (pe_errK (ek_BadBook T B) (hr.mono (by decide)) rfl (pk_cons (pv 0) pk_nil)) (pa_cons (pe_errK (ek_BadPart T B) (hr.mono (by decide)) rfl (pk_cons (pv 0) pk_nil)) (pa_cons (pe_errK (ek_BadDepth T B) (hr.mono (by decide)) rfl (pk_cons (pv 0) pk_nil)) (pa_cons (pe_errK (ek_BadParts T B) (hr.mono (by decide)) rfl (pk_cons (pv 0) pk_nil)) (pa_cons (pe_errK (ek_NoPart T B) (hr.mono (by decide)) rfl (pk_cons (pv 0) pk_nil)) pa_nil))))))) (pss_cons (ps_set (i := 1) sc_law_named.nd rfl (Or.inl rfl) (pe_op op_cat (pv 1) (pe_lst (pa_cons (pe_errK (ek_NoWant T B) (hr.mono (by decide)) rfl (pk_cons (pv 0) pk_nil)) (pa_cons (pe_errK (ek_Barred T B) (hr.mono (by decide)) rfl (pk_cons (pv 0) pk_nil)) (pa_cons (pe_errK (ek_NoScope T B) (hr.mono (by decide)) rfl (pk_cons (pv 0) pk_nil)) (pa_cons (pe_errK (ek_Busy T B) (hr.mono (by decide)) rfl (pk_cons (pv 0) pk_nil)) (pa_cons (pe_errK (ek_Waiting T B) (hr.mono (by decide)) rfl (pk_cons (pv 0) pk_nil)) pa_nil)))))))) (pss_cons (ps_set (i := 1) sc_law_named.nd rfl (Or.inl rfl) (pe_op op_cat (pv 1) (pe_lst (pa_cons (pe_errK (ek_NoRequest T B) (hr.mono (by decide)) rfl (pk_cons (pv 0) pk_nil)) (pa_cons (pe_errK (ek_NoWork T B) (hr.mono (by decide)) rfl (pk_cons (pv 0) pk_nil)) (pa_cons (pe_errK (ek_BadDeed T B) (hr.mono (by decide)) rfl (pk_cons (pv 0) pk_nil)) (pa_cons (pe_errK (ek_BadFault T B) (hr.mono (by decide)) rfl (pk_cons (pv 0) pk_nil)) (pa_cons (pe_errK (ek_BadStand T B) (hr.mono (by decide)) rfl (pk_cons (pv 0) pk_nil)) pa_nil)))))))) (pss_one (ps_ret (pe_op op_cat (pv 1) (pe_lst (pa_cons (pe_errK (ek_BadBorder T B) (hr.mono (by decide)) rfl (pk_cons (pv 0) pk_nil)) (pa_cons (pe_errK (ek_BadText T B) (hr.mono (by decide)) rfl (pk_cons (pv 0) pk_nil)) pa_nil))))))))), ?_⟩
    refine ⟨_, rfl, v, rfl, fun d0 x0 a0 y0 => ?_⟩
    generalize e0 : upd (upd _ _ _) _ _ = H0; obtain ⟨s0, r0, z0⟩ := err_new (K := K) x0 y0 e0
    refine ⟨_, rfl, v, rfl, fun d1 x1 a1 y1 => ?_⟩
    generalize e1 : upd (upd _ _ _) _ _ = H1; obtain ⟨s1, r1, z1⟩ := err_new (K := K) x1 y1 e1
    refine ⟨_, rfl, v, rfl, fun d2 x2 a2 y2 => ?_⟩
    generalize e2 : upd (upd _ _ _) _ _ = H2; obtain ⟨s2, r2, z2⟩ := err_new (K := K) x2 y2 e2
    refine ⟨_, rfl, v, rfl, fun d3 x3 a3 y3 => ?_⟩
    generalize e3 : upd (upd _ _ _) _ _ = H3; obtain ⟨s3, r3, z3⟩ := err_new (K := K) x3 y3 e3
    refine ⟨_, rfl, v, rfl, fun d4 x4 a4 y4 => ?_⟩
    generalize e4 : upd (upd _ _ _) _ _ = H4; obtain ⟨s4, r4, z4⟩ := err_new (K := K) x4 y4 e4
    refine ⟨by simp [sizeLine_eq], fun aL0 qL0 => ?_⟩
    generalize eL0 : upd _ _ _ = HL0; have sL0 := new_s eL0 qL0; have fL0 := new_f eL0
    refine ⟨_, rfl, ?_⟩
    refine ⟨_, rfl, v, rfl, fun d5 x5 a5 y5 => ?_⟩
    generalize e5 : upd (upd _ _ _) _ _ = H5; obtain ⟨s5, r5, z5⟩ := err_new (K := K) x5 y5 e5
    refine ⟨_, rfl, v, rfl, fun d6 x6 a6 y6 => ?_⟩
    generalize e6 : upd (upd _ _ _) _ _ = H6; obtain ⟨s6, r6, z6⟩ := err_new (K := K) x6 y6 e6
    refine ⟨_, rfl, v, rfl, fun d7 x7 a7 y7 => ?_⟩
    generalize e7 : upd (upd _ _ _) _ _ = H7; obtain ⟨s7, r7, z7⟩ := err_new (K := K) x7 y7 e7
    refine ⟨_, rfl, v, rfl, fun d8 x8 a8 y8 => ?_⟩
    generalize e8 : upd (upd _ _ _) _ _ = H8; obtain ⟨s8, r8, z8⟩ := err_new (K := K) x8 y8 e8
    refine ⟨_, rfl, v, rfl, fun d9 x9 a9 y9 => ?_⟩
    generalize e9 : upd (upd _ _ _) _ _ = H9; obtain ⟨s9, r9, z9⟩ := err_new (K := K) x9 y9 e9
    refine ⟨by simp [sizeLine_eq], fun aL2 qL2 => ?_⟩
    generalize eL2 : upd _ _ _ = HL2; have sL2 := new_s eL2 qL2; have fL2 := new_f eL2
    have g1 := sL2 _ _ (s9 _ _ (s8 _ _ (s7 _ _ (s6 _ _ (s5 _ _ (fL0))))))
    refine ⟨_, _, _, _, rfl, rfl, g1, fL2, by simp [sizeLine_eq], fun aL3 qL3 => ?_⟩
    generalize eL3 : upd _ _ _ = HL3; have sL3 := new_s eL3 qL3; have fL3 := new_f eL3
    refine ⟨_, rfl, ?_⟩
    refine ⟨_, rfl, v, rfl, fun d10 x10 a10 y10 => ?_⟩
    generalize e10 : upd (upd _ _ _) _ _ = H10; obtain ⟨s10, r10, z10⟩ := err_new (K := K) x10 y10 e10
    refine ⟨_, rfl, v, rfl, fun d11 x11 a11 y11 => ?_⟩
    generalize e11 : upd (upd _ _ _) _ _ = H11; obtain ⟨s11, r11, z11⟩ := err_new (K := K) x11 y11 e11
    refine ⟨_, rfl, v, rfl, fun d12 x12 a12 y12 => ?_⟩
    generalize e12 : upd (upd _ _ _) _ _ = H12; obtain ⟨s12, r12, z12⟩ := err_new (K := K) x12 y12 e12
    refine ⟨_, rfl, v, rfl, fun d13 x13 a13 y13 => ?_⟩
    generalize e13 : upd (upd _ _ _) _ _ = H13; obtain ⟨s13, r13, z13⟩ := err_new (K := K) x13 y13 e13
    refine ⟨_, rfl, v, rfl, fun d14 x14 a14 y14 => ?_⟩
    generalize e14 : upd (upd _ _ _) _ _ = H14; obtain ⟨s14, r14, z14⟩ := err_new (K := K) x14 y14 e14
    refine ⟨by simp [sizeLine_eq], fun aL4 qL4 => ?_⟩
    generalize eL4 : upd _ _ _ = HL4; have sL4 := new_s eL4 qL4; have fL4 := new_f eL4
    have g2 := sL4 _ _ (s14 _ _ (s13 _ _ (s12 _ _ (s11 _ _ (s10 _ _ (fL3))))))
    refine ⟨_, _, _, _, rfl, rfl, g2, fL4, by simp [sizeLine_eq], fun aL5 qL5 => ?_⟩
    generalize eL5 : upd _ _ _ = HL5; have sL5 := new_s eL5 qL5; have fL5 := new_f eL5
    refine ⟨_, rfl, ?_⟩
    refine ⟨_, rfl, v, rfl, fun d15 x15 a15 y15 => ?_⟩
    generalize e15 : upd (upd _ _ _) _ _ = H15; obtain ⟨s15, r15, z15⟩ := err_new (K := K) x15 y15 e15
    refine ⟨_, rfl, v, rfl, fun d16 x16 a16 y16 => ?_⟩
    generalize e16 : upd (upd _ _ _) _ _ = H16; obtain ⟨s16, r16, z16⟩ := err_new (K := K) x16 y16 e16
    refine ⟨by simp [sizeLine_eq], fun aL6 qL6 => ?_⟩
    generalize eL6 : upd _ _ _ = HL6; have sL6 := new_s eL6 qL6; have fL6 := new_f eL6
    have g3 := sL6 _ _ (s16 _ _ (s15 _ _ (fL5)))
    refine ⟨_, _, _, _, rfl, rfl, g3, fL6, by simp [sizeLine_eq], fun aL7 qL7 => ?_⟩
    generalize eL7 : upd _ _ _ = HL7; have sL7 := new_s eL7 qL7; have fL7 := new_f eL7
    have c24 := Same.refl HL7
    have c23 := sL7.trans c24
    have c22 := sL6.trans c23
    have c21 := s16.trans c22
    have c20 := s15.trans c21
    have c19 := sL5.trans c20
    have c18 := sL4.trans c19
    have c17 := s14.trans c18
    have c16 := s13.trans c17
    have c15 := s12.trans c16
    have c14 := s11.trans c15
    have c13 := s10.trans c14
    have c12 := sL3.trans c13
    have c11 := sL2.trans c12
    have c10 := s9.trans c11
    have c9 := s8.trans c10
    have c8 := s7.trans c9
    have c7 := s6.trans c8
    have c6 := s5.trans c7
    have c5 := sL0.trans c6
    have c4 := s4.trans c5
    have c3 := s3.trans c4
    have c2 := s2.trans c3
    have c1 := s1.trans c2
    have c0 := s0.trans c1
    exact k _ _ c0 ⟨[a0, a1, a2, a3, a4, a5, a6, a7, a8, a9, a10, a11, a12, a13, a14, a15, a16], fL7, .cons (r0.same c1) (.cons (r1.same c2) (.cons (r2.same c3) (.cons (r3.same c4) (.cons (r4.same c5) (.cons (r5.same c7) (.cons (r6.same c8) (.cons (r7.same c9) (.cons (r8.same c10) (.cons (r9.same c11) (.cons (r10.same c14) (.cons (r11.same c15) (.cons (r12.same c16) (.cons (r13.same c17) (.cons (r14.same c18) (.cons (r15.same c21) (.cons (r16.same c22) (.nil)))))))))))))))))⟩
theorem pat {α β : Type} {R : α → β → Prop} : ∀ {l : List α} {m : List β}, Paired R l m → ∀ {i : Nat} {x : α}, l[i]? = some x → ∃ y, m[i]? = some y ∧ R x y
  | _, _, .cons r _, 0, _, e => by cases e; exact ⟨_, rfl, r⟩
  | _, _, .cons _ t, i + 1, _, e => pat t (i := i) e
theorem paired_len {α β : Type} {R : α → β → Prop} : ∀ {l : List α} {m : List β}, Paired R l m → l.length = m.length
  | _, _, .nil => rfl
  | _, _, .cons _ t => by rw [List.length_cons, List.length_cons, paired_len t]
theorem ErrsAt.same {H H' : Hp} {l : Addr} {v : V} (h : ErrsAt K H l v) (e : Same H H') : ErrsAt K H' l v := by
  obtain ⟨as, h1, h2⟩ := h
  refine ⟨as, e _ _ h1, ?_⟩
  have go : ∀ {l : List (Str × Str)} {m : List Addr}, Paired (fun p a => ErrAt K H p.1 p.2 v a) l m → Paired (fun p a => ErrAt K H' p.1 p.2 v a) l m := by
    intro l m q
    induction q with
    | nil => exact .nil
    | cons r _ ih => exact .cons (r.same e) ih
  exact go h2
/-- one of them -/
theorem ErrsAt.at_ {H : Hp} {l : Addr} {v : V} (h : ErrsAt K H l v) {i : Nat} {p : Str × Str} (e : cls17[i]? = some p) : ∃ (as : List Addr) (a : Addr), H l = some (.lst (as.map V.ref)) ∧ as.length = 17 ∧ (as.map V.ref)[i]? = some (.ref a) ∧ ErrAt K H p.1 p.2 v a := by
  obtain ⟨as, h1, h2⟩ := h
  obtain ⟨a, ha, r⟩ := pat h2 e
  exact ⟨as, a, h1, (paired_len h2).symm, by rw [List.getElem?_map, ha]; rfl, r⟩
def spKept (K : PySem.W.Frag) : Sp := fun vs H Q _ => ∃ l v, vs = [.ref l] ∧ ErrsAt K H l v ∧ ∀ (p : Addr) (H' : Hp), Same H H' → H' p = some (.lst (List.replicate 17 v)) → Q (.ref p) H'
theorem has_kept (T : Tx K mg) : Has P w K mg base "_law_kept" 1 ["_law_some"] (spKept K) := by
  refine has_of (k := 0) (g_law_kept T) (d_law_kept T) sc_law_kept (fun _ _ _ _ _ _ us hl => match us, hl with | [_], _ => rfl) (fun vs H Q E h => ?_) (fun cdv A outer s H vs Q E hr h => ?_)
  · obtain ⟨l, v, rfl, _⟩ := h
    rfl
  · obtain ⟨l, v, rfl, hl, k⟩ := h
    refine ⟨_, (pss_cons (ps_set (i := 1) sc_law_kept.nd rfl (Or.inl rfl) (pe_lst (pa_cons (pe_errF (pe_ix ix_list (pv 0) pe_int (fun _ _ => rfl))) (pa_cons (pe_errF (pe_ix ix_list (pv 0) pe_int (fun _ _ => rfl))) (pa_cons (pe_errF (pe_ix ix_list (pv 0) pe_int (fun _ _ => rfl))) (pa_cons (pe_errF (pe_ix ix_list (pv 0) pe_int (fun _ _ => rfl))) (pa_cons (pe_errF (pe_ix ix_list (pv 0) pe_int (fun _ _ => rfl))) (pa_cons (pe_errF (pe_ix ix_list (pv 0) pe_int (fun _ _ => rfl))) (pa_cons (pe_errF (pe_ix ix_list (pv 0) pe_int (fun _ _ => rfl))) pa_nil))))))))) (pss_cons (ps_set (i := 1) sc_law_kept.nd rfl (Or.inl rfl) (pe_op op_cat (pv 1) (pe_lst (pa_cons (pe_errF (pe_ix ix_list (pv 0) pe_int (fun _ _ => rfl))) (pa_cons (pe_errF (pe_ix ix_list (pv 0) pe_int (fun _ _ => rfl))) (pa_cons (pe_errF (pe_ix ix_list (pv 0) pe_int (fun _ _ => rfl))) (pa_cons (pe_errF (pe_ix ix_list (pv 0) pe_int (fun _ _ => rfl))) (pa_cons (pe_errF (pe_ix ix_list (pv 0) pe_int (fun _ _ => rfl))) (pa_cons (pe_errF (pe_ix ix_list (pv 0) pe_int (fun _ _ => rfl))) pa_nil))))))))) (pss_one (ps_ret (pe_op op_cat (pv 1) (pe_lst (pa_cons (pe_errF (pe_ix ix_list (pv 0) pe_int (fun _ _ => rfl))) (pa_cons (pe_errF (pe_ix ix_list (pv 0) pe_int (fun _ _ => rfl))) (pa_cons (pe_errF (pe_ix ix_list (pv 0) pe_int (fun _ _ => rfl))) (pa_cons (pe_errF (pe_ix ix_list (pv 0) pe_int (fun _ _ => rfl))) pa_nil)))))))))), ?_⟩
    have er := hl
    obtain ⟨as0, a0, h0, n0, e0, d0, u0, w0⟩ := er.at_ (i := 0) rfl
    refine ⟨_, rfl, l, _, _, _, rfl, rfl, SqL.of h0, atI_nat (j := 0) e0, a0, _, d0, _, v, rfl, u0, w0, er_BadBook T, nf_BadBook T, rfl, ?_⟩
    obtain ⟨as1, a1, h1, n1, e1, d1, u1, w1⟩ := er.at_ (i := 1) rfl
    refine ⟨_, rfl, l, _, _, _, rfl, rfl, SqL.of h1, atI_nat (j := 1) e1, a1, _, d1, _, v, rfl, u1, w1, er_BadPart T, nf_BadPart T, rfl, ?_⟩
    obtain ⟨as2, a2, h2, n2, e2, d2, u2, w2⟩ := er.at_ (i := 2) rfl
    refine ⟨_, rfl, l, _, _, _, rfl, rfl, SqL.of h2, atI_nat (j := 2) e2, a2, _, d2, _, v, rfl, u2, w2, er_BadDepth T, nf_BadDepth T, rfl, ?_⟩
    obtain ⟨as3, a3, h3, n3, e3, d3, u3, w3⟩ := er.at_ (i := 3) rfl
    refine ⟨_, rfl, l, _, _, _, rfl, rfl, SqL.of h3, atI_nat (j := 3) e3, a3, _, d3, _, v, rfl, u3, w3, er_BadParts T, nf_BadParts T, rfl, ?_⟩
    obtain ⟨as4, a4, h4, n4, e4, d4, u4, w4⟩ := er.at_ (i := 4) rfl
    refine ⟨_, rfl, l, _, _, _, rfl, rfl, SqL.of h4, atI_nat (j := 4) e4, a4, _, d4, _, v, rfl, u4, w4, er_NoPart T, nf_NoPart T, rfl, ?_⟩
    obtain ⟨as5, a5, h5, n5, e5, d5, u5, w5⟩ := er.at_ (i := 5) rfl
    refine ⟨_, rfl, l, _, _, _, rfl, rfl, SqL.of h5, atI_nat (j := 5) e5, a5, _, d5, _, v, rfl, u5, w5, er_NoWant T, nf_NoWant T, rfl, ?_⟩
    obtain ⟨as6, a6, h6, n6, e6, d6, u6, w6⟩ := er.at_ (i := 6) rfl
    refine ⟨_, rfl, l, _, _, _, rfl, rfl, SqL.of h6, atI_nat (j := 6) e6, a6, _, d6, _, v, rfl, u6, w6, er_Barred T, nf_Barred T, rfl, ?_⟩
    refine ⟨by simp [sizeLine_eq], fun aL0 qL0 => ?_⟩
    generalize eL0 : upd _ _ _ = HL0; have sL0 := new_s eL0 qL0; have fL0 := new_f eL0; have er := er.same sL0
    refine ⟨_, rfl, ?_⟩
    obtain ⟨as7, a7, h7, n7, e7, d7, u7, w7⟩ := er.at_ (i := 7) rfl
    refine ⟨_, rfl, l, _, _, _, rfl, rfl, SqL.of h7, atI_nat (j := 7) e7, a7, _, d7, _, v, rfl, u7, w7, er_NoScope T, nf_NoScope T, rfl, ?_⟩
    obtain ⟨as8, a8, h8, n8, e8, d8, u8, w8⟩ := er.at_ (i := 8) rfl
    refine ⟨_, rfl, l, _, _, _, rfl, rfl, SqL.of h8, atI_nat (j := 8) e8, a8, _, d8, _, v, rfl, u8, w8, er_Busy T, nf_Busy T, rfl, ?_⟩
    obtain ⟨as9, a9, h9, n9, e9, d9, u9, w9⟩ := er.at_ (i := 9) rfl
    refine ⟨_, rfl, l, _, _, _, rfl, rfl, SqL.of h9, atI_nat (j := 9) e9, a9, _, d9, _, v, rfl, u9, w9, er_Waiting T, nf_Waiting T, rfl, ?_⟩
    obtain ⟨as10, a10, h10, n10, e10, d10, u10, w10⟩ := er.at_ (i := 10) rfl
    refine ⟨_, rfl, l, _, _, _, rfl, rfl, SqL.of h10, atI_nat (j := 10) e10, a10, _, d10, _, v, rfl, u10, w10, er_NoRequest T, nf_NoRequest T, rfl, ?_⟩
    obtain ⟨as11, a11, h11, n11, e11, d11, u11, w11⟩ := er.at_ (i := 11) rfl
    refine ⟨_, rfl, l, _, _, _, rfl, rfl, SqL.of h11, atI_nat (j := 11) e11, a11, _, d11, _, v, rfl, u11, w11, er_NoWork T, nf_NoWork T, rfl, ?_⟩
    obtain ⟨as12, a12, h12, n12, e12, d12, u12, w12⟩ := er.at_ (i := 12) rfl
    refine ⟨_, rfl, l, _, _, _, rfl, rfl, SqL.of h12, atI_nat (j := 12) e12, a12, _, d12, _, v, rfl, u12, w12, er_BadDeed T, nf_BadDeed T, rfl, ?_⟩
    refine ⟨by simp [sizeLine_eq], fun aL1 qL1 => ?_⟩
    generalize eL1 : upd _ _ _ = HL1; have sL1 := new_s eL1 qL1; have fL1 := new_f eL1; have er := er.same sL1
    have g1 := sL1 _ _ fL0
    refine ⟨_, _, _, _, rfl, rfl, g1, fL1, by simp [sizeLine_eq], fun aL2 qL2 => ?_⟩
    generalize eL2 : upd _ _ _ = HL2; have sL2 := new_s eL2 qL2; have fL2 := new_f eL2; have er := er.same sL2
    refine ⟨_, rfl, ?_⟩
    obtain ⟨as13, a13, h13, n13, e13, d13, u13, w13⟩ := er.at_ (i := 13) rfl
    refine ⟨_, rfl, l, _, _, _, rfl, rfl, SqL.of h13, atI_nat (j := 13) e13, a13, _, d13, _, v, rfl, u13, w13, er_BadFault T, nf_BadFault T, rfl, ?_⟩
    obtain ⟨as14, a14, h14, n14, e14, d14, u14, w14⟩ := er.at_ (i := 14) rfl
    refine ⟨_, rfl, l, _, _, _, rfl, rfl, SqL.of h14, atI_nat (j := 14) e14, a14, _, d14, _, v, rfl, u14, w14, er_BadStand T, nf_BadStand T, rfl, ?_⟩
    obtain ⟨as15, a15, h15, n15, e15, d15, u15, w15⟩ := er.at_ (i := 15) rfl
    refine ⟨_, rfl, l, _, _, _, rfl, rfl, SqL.of h15, atI_nat (j := 15) e15, a15, _, d15, _, v, rfl, u15, w15, er_BadBorder T, nf_BadBorder T, rfl, ?_⟩
    obtain ⟨as16, a16, h16, n16, e16, d16, u16, w16⟩ := er.at_ (i := 16) rfl
    refine ⟨_, rfl, l, _, _, _, rfl, rfl, SqL.of h16, atI_nat (j := 16) e16, a16, _, d16, _, v, rfl, u16, w16, er_BadText T, nf_BadText T, rfl, ?_⟩
    refine ⟨by simp [sizeLine_eq], fun aL3 qL3 => ?_⟩
    generalize eL3 : upd _ _ _ = HL3; have sL3 := new_s eL3 qL3; have fL3 := new_f eL3; have er := er.same sL3
    have g2 := sL3 _ _ fL2
    refine ⟨_, _, _, _, rfl, rfl, g2, fL3, by simp [sizeLine_eq], fun aL4 qL4 => ?_⟩
    generalize eL4 : upd _ _ _ = HL4; have sL4 := new_s eL4 qL4; have fL4 := new_f eL4; have er := er.same sL4
    exact k _ _ ((((sL0.trans sL1).trans sL2).trans sL3).trans sL4) fL4
theorem kit17 (T : Tx K mg) {i j : Nat} {p q : Str × Str} (e1 : cls17[i]? = some p) (e2 : cls17[j]? = some q) : PySem.W.kitOne K (.ref (He.ga K p.1)) (.ref (He.ga K q.1)) = some (decide (p.1 = q.1)) := by
  have h := kt01 T
  unfold kitB at h
  exact of_decide_eq_true (List.all_eq_true.mp (He.ba (List.all_eq_true.mp h p (List.mem_of_getElem? e1))).1 q (List.mem_of_getElem? e2))
theorem kitL (T : Tx K mg) {i : Nat} {p : Str × Str} (e1 : cls17[i]? = some p) : PySem.W.kitOne K (.ref (He.ga K p.1)) (.ref (He.ga K "LifeError")) = some true := by
  have h := kt01 T
  unfold kitB at h
  exact of_decide_eq_true (He.ba (He.ba (List.all_eq_true.mp h p (List.mem_of_getElem? e1))).2).1
theorem kitV (T : Tx K mg) {i : Nat} {p : Str × Str} (e1 : cls17[i]? = some p) : PySem.W.kitOne K (.ref (He.ga K p.1)) (.type "ValueError") = some true := by
  have h := kt01 T
  unfold kitB at h
  exact of_decide_eq_true (He.ba (He.ba (List.all_eq_true.mp h p (List.mem_of_getElem? e1))).2).2
theorem ec17 (T : Tx K mg) {p : Str × Str} (hp : p ∈ cls17) : ErrC K (He.ga K p.1) := by
  simp only [cls17, List.mem_cons, List.not_mem_nil, or_false] at hp
  rcases hp with rfl | rfl | rfl | rfl | rfl | rfl | rfl | rfl | rfl | rfl | rfl | rfl | rfl | rfl | rfl | rfl | rfl
  · exact er_BadBook T
  · exact er_BadPart T
  · exact er_BadDepth T
  · exact er_BadParts T
  · exact er_NoPart T
  · exact er_NoWant T
  · exact er_Barred T
  · exact er_NoScope T
  · exact er_Busy T
  · exact er_Waiting T
  · exact er_NoRequest T
  · exact er_NoWork T
  · exact er_BadDeed T
  · exact er_BadFault T
  · exact er_BadStand T
  · exact er_BadBorder T
  · exact er_BadText T
def spMarks (K : PySem.W.Frag) : Sp := fun vs H Q _ => ∃ (a : Addr) (v : V) (p : Str × Str), vs = [.ref a] ∧ p ∈ cls17 ∧ ErrAt K H p.1 p.2 v a ∧ ∀ (l : Addr) (H' : Hp), Same H H' → H' l = some (.lst (cls17.map fun q => .bl (decide (p.1 = q.1)))) → Q (.ref l) H'
theorem has_marks (T : Tx K mg) : Has P w K mg base "_law_marks" 1 ["_law_error"] (spMarks K) := by
  refine has_of (k := 0) (g_law_marks T) (d_law_marks T) sc_law_marks (fun _ _ _ _ _ _ us hl => match us, hl with | [_], _ => rfl) (fun vs H Q E h => ?_) (fun cdv A outer s H vs Q E hr h => ?_)
  · obtain ⟨a, v, p, rfl, _⟩ := h
    rfl
  · obtain ⟨a, v, p, rfl, hp, er, k⟩ := h
    obtain ⟨ip, hip⟩ := List.getElem?_of_mem hp
    have ec : ErrC K (He.ga K p.1) := by
      have hp2 := hp
      simp only [cls17, List.mem_cons, List.not_mem_nil, or_false] at hp2
      rcases hp2 with rfl | rfl | rfl | rfl | rfl | rfl | rfl | rfl | rfl | rfl | rfl | rfl | rfl | rfl | rfl | rfl | rfl
      · exact er_BadBook T
      · exact er_BadPart T
      · exact er_BadDepth T
      · exact er_BadParts T
      · exact er_NoPart T
      · exact er_NoWant T
      · exact er_Barred T
      · exact er_NoScope T
      · exact er_Busy T
      · exact er_Waiting T
      · exact er_NoRequest T
      · exact er_NoWork T
      · exact er_BadDeed T
      · exact er_BadFault T
      · exact er_BadStand T
      · exact er_BadBorder T
      · exact er_BadText T
    refine ⟨_, (pss_cons (ps_set (i := 1) sc_law_marks.nd rfl (Or.inl rfl) (pe_lst (pa_cons (pe_callB call_isErr (by rfl) (m_isinstance T) boot_isinstance (pa_cons (pv 0) (pa_cons (pe_glob (v := .ref (He.ga K "BadBook")) rfl (g_BadBook T) rfl) pa_nil))) (pa_cons (pe_callB call_isErr (by rfl) (m_isinstance T) boot_isinstance (pa_cons (pv 0) (pa_cons (pe_glob (v := .ref (He.ga K "BadPart")) rfl (g_BadPart T) rfl) pa_nil))) (pa_cons (pe_callB call_isErr (by rfl) (m_isinstance T) boot_isinstance (pa_cons (pv 0) (pa_cons (pe_glob (v := .ref (He.ga K "BadDepth")) rfl (g_BadDepth T) rfl) pa_nil))) pa_nil))))) (pss_cons (ps_set (i := 1) sc_law_marks.nd rfl (Or.inl rfl) (pe_op op_cat (pv 1) (pe_lst (pa_cons (pe_callB call_isErr (by rfl) (m_isinstance T) boot_isinstance (pa_cons (pv 0) (pa_cons (pe_glob (v := .ref (He.ga K "BadParts")) rfl (g_BadParts T) rfl) pa_nil))) (pa_cons (pe_callB call_isErr (by rfl) (m_isinstance T) boot_isinstance (pa_cons (pv 0) (pa_cons (pe_glob (v := .ref (He.ga K "NoPart")) rfl (g_NoPart T) rfl) pa_nil))) (pa_cons (pe_callB call_isErr (by rfl) (m_isinstance T) boot_isinstance (pa_cons (pv 0) (pa_cons (pe_glob (v := .ref (He.ga K "NoWant")) rfl (g_NoWant T) rfl) pa_nil))) pa_nil)))))) (pss_cons (ps_set (i := 1) sc_law_marks.nd rfl (Or.inl rfl) (pe_op op_cat (pv 1) (pe_lst (pa_cons (pe_callB call_isErr (by rfl) (m_isinstance T) boot_isinstance (pa_cons (pv 0) (pa_cons (pe_glob (v := .ref (He.ga K "Barred")) rfl (g_Barred T) rfl) pa_nil))) (pa_cons (pe_callB call_isErr (by rfl) (m_isinstance T) boot_isinstance (pa_cons (pv 0) (pa_cons (pe_glob (v := .ref (He.ga K "NoScope")) rfl (g_NoScope T) rfl) pa_nil))) (pa_cons (pe_callB call_isErr (by rfl) (m_isinstance T) boot_isinstance (pa_cons (pv 0) (pa_cons (pe_glob (v := .ref (He.ga K "Busy")) rfl (g_Busy T) rfl) pa_nil))) pa_nil)))))) (pss_cons (ps_set (i := 1) sc_law_marks.nd rfl (Or.inl rfl) (pe_op op_cat (pv 1) (pe_lst (pa_cons (pe_callB call_isErr (by rfl) (m_isinstance T) boot_isinstance (pa_cons (pv 0) (pa_cons (pe_glob (v := .ref (He.ga K "Waiting")) rfl (g_Waiting T) rfl) pa_nil))) (pa_cons (pe_callB call_isErr (by rfl) (m_isinstance T) boot_isinstance (pa_cons (pv 0) (pa_cons (pe_glob (v := .ref (He.ga K "NoRequest")) rfl (g_NoRequest T) rfl) pa_nil))) (pa_cons (pe_callB call_isErr (by rfl) (m_isinstance T) boot_isinstance (pa_cons (pv 0) (pa_cons (pe_glob (v := .ref (He.ga K "NoWork")) rfl (g_NoWork T) rfl) pa_nil))) pa_nil)))))) (pss_cons (ps_set (i := 1) sc_law_marks.nd rfl (Or.inl rfl) (pe_op op_cat (pv 1) (pe_lst (pa_cons (pe_callB call_isErr (by rfl) (m_isinstance T) boot_isinstance (pa_cons (pv 0) (pa_cons (pe_glob (v := .ref (He.ga K "BadDeed")) rfl (g_BadDeed T) rfl) pa_nil))) (pa_cons (pe_callB call_isErr (by rfl) (m_isinstance T) boot_isinstance (pa_cons (pv 0) (pa_cons (pe_glob (v := .ref (He.ga K "BadFault")) rfl (g_BadFault T) rfl) pa_nil))) (pa_cons (pe_callB call_isErr (by rfl) (m_isinstance T) boot_isinstance (pa_cons (pv 0) (pa_cons (pe_glob (v := .ref (He.ga K "BadStand")) rfl (g_BadStand T) rfl) pa_nil))) pa_nil)))))) (pss_one (ps_ret (pe_op op_cat (pv 1) (pe_lst (pa_cons (pe_callB call_isErr (by rfl) (m_isinstance T) boot_isinstance (pa_cons (pv 0) (pa_cons (pe_glob (v := .ref (He.ga K "BadBorder")) rfl (g_BadBorder T) rfl) pa_nil))) (pa_cons (pe_callB call_isErr (by rfl) (m_isinstance T) boot_isinstance (pa_cons (pv 0) (pa_cons (pe_glob (v := .ref (He.ga K "BadText")) rfl (g_BadText T) rfl) pa_nil))) pa_nil))))))))))), ?_⟩
    obtain ⟨dd0, u0, w0⟩ := id er
    refine ⟨_, rfl, a, _, _, _, _, _, rfl, u0, fun z e => ⟨_, by cases e; exact w0⟩, ec, fun u r => r, kit17 T hip (j := 0) rfl, ?_⟩
    refine ⟨_, rfl, a, _, _, _, _, _, rfl, u0, fun z e => ⟨_, by cases e; exact w0⟩, ec, fun u r => r, kit17 T hip (j := 1) rfl, ?_⟩
    refine ⟨_, rfl, a, _, _, _, _, _, rfl, u0, fun z e => ⟨_, by cases e; exact w0⟩, ec, fun u r => r, kit17 T hip (j := 2) rfl, ?_⟩
    refine ⟨by simp [sizeLine_eq], fun aL0 qL0 => ?_⟩
    generalize eL0 : upd _ _ _ = HL0; have sL0 := new_s eL0 qL0; have fL0 := new_f eL0; have er := er.same sL0
    refine ⟨_, rfl, ?_⟩
    obtain ⟨dd1, u1, w1⟩ := id er
    refine ⟨_, rfl, a, _, _, _, _, _, rfl, u1, fun z e => ⟨_, by cases e; exact w1⟩, ec, fun u r => r, kit17 T hip (j := 3) rfl, ?_⟩
    refine ⟨_, rfl, a, _, _, _, _, _, rfl, u1, fun z e => ⟨_, by cases e; exact w1⟩, ec, fun u r => r, kit17 T hip (j := 4) rfl, ?_⟩
    refine ⟨_, rfl, a, _, _, _, _, _, rfl, u1, fun z e => ⟨_, by cases e; exact w1⟩, ec, fun u r => r, kit17 T hip (j := 5) rfl, ?_⟩
    refine ⟨by simp [sizeLine_eq], fun aL1 qL1 => ?_⟩
    generalize eL1 : upd _ _ _ = HL1; have sL1 := new_s eL1 qL1; have fL1 := new_f eL1; have er := er.same sL1
    have g1 := sL1 _ _ fL0
    refine ⟨_, _, _, _, rfl, rfl, g1, fL1, by simp [sizeLine_eq], fun aL2 qL2 => ?_⟩
    generalize eL2 : upd _ _ _ = HL2; have sL2 := new_s eL2 qL2; have fL2 := new_f eL2; have er := er.same sL2
    refine ⟨_, rfl, ?_⟩
    obtain ⟨dd2, u2, w2⟩ := id er
    refine ⟨_, rfl, a, _, _, _, _, _, rfl, u2, fun z e => ⟨_, by cases e; exact w2⟩, ec, fun u r => r, kit17 T hip (j := 6) rfl, ?_⟩
    refine ⟨_, rfl, a, _, _, _, _, _, rfl, u2, fun z e => ⟨_, by cases e; exact w2⟩, ec, fun u r => r, kit17 T hip (j := 7) rfl, ?_⟩
    refine ⟨_, rfl, a, _, _, _, _, _, rfl, u2, fun z e => ⟨_, by cases e; exact w2⟩, ec, fun u r => r, kit17 T hip (j := 8) rfl, ?_⟩
    refine ⟨by simp [sizeLine_eq], fun aL3 qL3 => ?_⟩
    generalize eL3 : upd _ _ _ = HL3; have sL3 := new_s eL3 qL3; have fL3 := new_f eL3; have er := er.same sL3
    have g2 := sL3 _ _ fL2
    refine ⟨_, _, _, _, rfl, rfl, g2, fL3, by simp [sizeLine_eq], fun aL4 qL4 => ?_⟩
    generalize eL4 : upd _ _ _ = HL4; have sL4 := new_s eL4 qL4; have fL4 := new_f eL4; have er := er.same sL4
    refine ⟨_, rfl, ?_⟩
    obtain ⟨dd3, u3, w3⟩ := id er
    refine ⟨_, rfl, a, _, _, _, _, _, rfl, u3, fun z e => ⟨_, by cases e; exact w3⟩, ec, fun u r => r, kit17 T hip (j := 9) rfl, ?_⟩
    refine ⟨_, rfl, a, _, _, _, _, _, rfl, u3, fun z e => ⟨_, by cases e; exact w3⟩, ec, fun u r => r, kit17 T hip (j := 10) rfl, ?_⟩
    refine ⟨_, rfl, a, _, _, _, _, _, rfl, u3, fun z e => ⟨_, by cases e; exact w3⟩, ec, fun u r => r, kit17 T hip (j := 11) rfl, ?_⟩
    refine ⟨by simp [sizeLine_eq], fun aL5 qL5 => ?_⟩
    generalize eL5 : upd _ _ _ = HL5; have sL5 := new_s eL5 qL5; have fL5 := new_f eL5; have er := er.same sL5
    have g3 := sL5 _ _ fL4
    refine ⟨_, _, _, _, rfl, rfl, g3, fL5, by simp [sizeLine_eq], fun aL6 qL6 => ?_⟩
    generalize eL6 : upd _ _ _ = HL6; have sL6 := new_s eL6 qL6; have fL6 := new_f eL6; have er := er.same sL6
    refine ⟨_, rfl, ?_⟩
    obtain ⟨dd4, u4, w4⟩ := id er
    refine ⟨_, rfl, a, _, _, _, _, _, rfl, u4, fun z e => ⟨_, by cases e; exact w4⟩, ec, fun u r => r, kit17 T hip (j := 12) rfl, ?_⟩
    refine ⟨_, rfl, a, _, _, _, _, _, rfl, u4, fun z e => ⟨_, by cases e; exact w4⟩, ec, fun u r => r, kit17 T hip (j := 13) rfl, ?_⟩
    refine ⟨_, rfl, a, _, _, _, _, _, rfl, u4, fun z e => ⟨_, by cases e; exact w4⟩, ec, fun u r => r, kit17 T hip (j := 14) rfl, ?_⟩
    refine ⟨by simp [sizeLine_eq], fun aL7 qL7 => ?_⟩
    generalize eL7 : upd _ _ _ = HL7; have sL7 := new_s eL7 qL7; have fL7 := new_f eL7; have er := er.same sL7
    have g4 := sL7 _ _ fL6
    refine ⟨_, _, _, _, rfl, rfl, g4, fL7, by simp [sizeLine_eq], fun aL8 qL8 => ?_⟩
    generalize eL8 : upd _ _ _ = HL8; have sL8 := new_s eL8 qL8; have fL8 := new_f eL8; have er := er.same sL8
    refine ⟨_, rfl, ?_⟩
    obtain ⟨dd5, u5, w5⟩ := id er
    refine ⟨_, rfl, a, _, _, _, _, _, rfl, u5, fun z e => ⟨_, by cases e; exact w5⟩, ec, fun u r => r, kit17 T hip (j := 15) rfl, ?_⟩
    refine ⟨_, rfl, a, _, _, _, _, _, rfl, u5, fun z e => ⟨_, by cases e; exact w5⟩, ec, fun u r => r, kit17 T hip (j := 16) rfl, ?_⟩
    refine ⟨by simp [sizeLine_eq], fun aL9 qL9 => ?_⟩
    generalize eL9 : upd _ _ _ = HL9; have sL9 := new_s eL9 qL9; have fL9 := new_f eL9; have er := er.same sL9
    have g5 := sL9 _ _ fL8
    refine ⟨_, _, _, _, rfl, rfl, g5, fL9, by simp [sizeLine_eq], fun aL10 qL10 => ?_⟩
    generalize eL10 : upd _ _ _ = HL10; have sL10 := new_s eL10 qL10; have fL10 := new_f eL10; have er := er.same sL10
    exact k _ _ (((((((((((sL0).trans sL1).trans sL2).trans sL3).trans sL4).trans sL5).trans sL6).trans sL7).trans sL8).trans sL9).trans sL10) fL10
end

end HL

namespace HL
open PySem PySem.Spec PyProof.Rows L2

section
variable {P : Program} {w : World} {K : PySem.W.Frag} {mg : Str → Option Value} {base : Heap}
def lamQ : Str := (envOfC "law" (defScope s_law) 0 0 (.ref 0)).qual ++ "<lambda>"
/-- the law's own table of code objects -/
def TT (K : PySem.W.Frag) : List (Addr × Str) := [((He.cT K ("law", none)).2, lamQ)]
theorem tabs_smd {T : List (Addr × Str)} {n : Nat} {H H' : Hp} {d : Addr} (t : LamX.Tabs T H) (dr : Dr P w n H d) (sm : SmD d H H') : LamX.Tabs T H' := by
  intro p hp
  obtain ⟨ps, h1, h2, h3⟩ := t p hp
  refine ⟨ps, sm _ _ (dr.at_ h1 (fun _ z => by cases z)) h1, h2, fun pos cv hc => ?_⟩
  obtain ⟨c, e1, e2⟩ := h3 pos cv hc
  refine ⟨c, e1, sm _ _ (fun z => ?_) e2⟩
  obtain ⟨m, lw, lc, _, _, _, _, hd, _, _⟩ := dr
  have q := Option.some.inj (e2.symm.trans (by rw [z]; exact hd))
  exact codeO_some flatD q z
theorem dr_ext {n : Nat} {H H' : Hp} {d : Addr} (dr : Dr P w n H d) (e : LamX.ExtN H H') : Dr P w n H' d := by
  obtain ⟨m, lw, lc, h1, h2, h3, h4, h5, h6, h7⟩ := dr
  exact ⟨m, lw, lc, h1, h2, h3, h4, e _ _ h5 (fun _ z => by cases z), e _ _ h6 (fun _ z => by cases z), e _ _ h7 (fun _ z => by cases z)⟩
theorem kpt_ext {H H' : Hp} (e : LamX.ExtN H H') : KpT H H' := fun b o _ n h => e b o h n
def marksD (i : Nat) : List PyData := (List.range 17).map fun j => .bool (decide (j = i))
theorem marks_eq : ∀ i < 17, ∀ p, cls17[i]? = some p → (cls17.map fun q => V.bl (decide (p.1 = q.1))) = (List.range 17).map fun j => V.bl (decide (j = i)) := by decide +kernel
theorem marks_ok : ∀ y < 17, SeqAt.shaped (.list (marksD y)) = true ∧ PyData.eqv (.list (marksD y)) (.list (marksD y)) = true := by decide +kernel
theorem dpa_bl {H : Hp} : ∀ l : List Bool, DpAll K H (l.map V.bl) (l.map PyData.bool)
  | [] => .nil
  | b :: r => .cons (.bl b) (dpa_bl r)
def spLaw (K : PySem.W.Frag) : Sp := fun vs H Q _ => ∃ (a : Addr) (ns : List Int), vs = [.ref a] ∧ SqL K H a (ns.map V.int) ∧ ns.length ≤ 63 ∧ LamX.Tabs (TT K) H ∧ ∀ H', Q (.bl true) H'
theorem fn_law (T : Tx K mg) (B : BaseOk base) (TB : LamX.TabB base mg (He.cT K ("law", none)).1 (He.cT K ("law", none)).2) {fd : FuncData} (F : FunD K "law" "law" (defArgs s_law) (defBody s_law) (defScope s_law) (dd_law.dvs K) (dd_law.kws K) (gAt "law" K) fd) : FnG P w K mg base CX0 6 (gAt "law" K) fd ["_law_script"] (spLaw K) := by
  have h_law_begun : Has P w K mg base "_law_begun" 1 ["_law_script"] (spBegun P w K) := has_begun T
  have h_law_any : Has P w K mg base "_law_any" 5 ["_law_draw"] (spAny P w K) := has_any T
  have h_law_each : Has P w K mg base "_law_each" 3 ["_law_odd_here"] (spEach K) := has_law_each T B
  have h_law_named : Has P w K mg base "_law_named" 3 ["_law_odd_here"] (spEach K) := has_law_named T B
  have h_law_kept : HasG P w K mg base "_law_kept" 1 ["_law_some"] (spKept K) := (has_kept T).g
  have h_law_marks : Has P w K mg base "_law_marks" 1 ["_law_error"] (spMarks K) := has_marks T
  have h_law_thrown : HasX P w K mg base "_law_thrown" 3 ["_law_odd_here"] (spThrown K) := has_thrown T B
  have hf_law_caught : HF P w K mg base "_law_caught" 4 5 ["_law_job"] (spCaught K) := hf_caught T 4
  refine okGC (k := 5) F sc_law (fun vs H Q E h => ?_) (fun A outer s H vs Q E gd hr h => ?_)
  · obtain ⟨a, ns, rfl, _⟩ := h
    rfl
  · obtain ⟨a, ns, rfl, hS, hlen, tb, k⟩ := h
    have hu := hu_of hr
    refine ⟨_, (pss_cons (ps_set (i := 1) sc_law.nd rfl (Or.inl rfl) (pe_has h_law_begun (hr.mono (by decide)) rfl (pa_cons (pv 0) pa_nil))) (pss_cons (ps_for PassesOwn.never rfl (pi_range1 (by rfl) (m_range T) (pa_cons (pe_op op_add pe_int (pe_callB (call_min2 rfl) (by rfl) (m_min T) boot_min (pa_cons (pe_callB call_len_seq (by rfl) (m_len T) boot_len (pa_cons (pv 0) pa_nil)) (pa_cons pe_int pa_nil)))) pa_nil)) (pg_name (i := 2) sc_law.nd rfl (Or.inl rfl)) (pss_cons (ps_set (i := 3) sc_law.nd rfl (Or.inr rfl) (pe_has h_law_any (hr.mono (by decide)) rfl (pa_cons (pv 1) pa_nil))) (pss_cons (ps_for PassesOwn.never rfl (pi_list (pe_lst (pa_cons (pe_has h_law_each (hr.mono (by decide)) rfl (pa_cons (pv 3) pa_nil)) (pa_cons (pe_has h_law_named (hr.mono (by decide)) rfl (pa_cons (pv 3) pa_nil)) pa_nil)))) (pg_name (i := 4) sc_law.nd rfl (Or.inl rfl)) (pss_cons (ps_if (pt_cmpR op_ne (pe_callB (call_reprQ gd hr.units B) (by rfl) (m_repr T) boot_repr (pa_cons (pe_hasg gd h_law_kept (hr.mono (by decide)) rfl (pa_cons (pv 4) pa_nil)) pa_nil)) (pe_callB (call_reprQ gd hr.units B) (by rfl) (m_repr T) boot_repr (pa_cons (pe_op op_rep (pe_lst (pa_cons (pv 3) pa_nil)) pe_int) pa_nil)) (nomark _)) (pss_one (ps_ret pe_bl)) pss_nil) (pss_one (ps_for PassesOwn.never rfl (pi_range1 (by rfl) (m_range T) (pa_cons pe_int pa_nil)) (pg_name (i := 5) sc_law.nd rfl (Or.inr rfl)) (pss_cons (ps_if (PW.pt (pw_or (pt_not (pt_val (pe_callB call_isErr (by rfl) (m_isinstance T) boot_isinstance (pa_cons (pe_ix ix_list (pv 4) (pv 5) (fun _ _ => rfl)) (pa_cons (pe_glob (v := .ref (He.ga K "LifeError")) rfl (g_LifeError T) rfl) pa_nil))))) (pw_or1 (pt_not (pt_val (pe_callB call_isErr (by rfl) (m_isinstance T) boot_isinstance (pa_cons (pe_ix ix_list (pv 4) (pv 5) (fun _ _ => rfl)) (pa_cons (pe_bltn (v := .ty "ValueError") (by rfl) (m_ValueError T) PyProof.Rows.Boot.«ValueError» rfl) pa_nil)))))))) (pss_one (ps_ret pe_bl)) pss_nil) (pss_one (ps_if (pt_cmpR (op_neD hr.units) (pe_has h_law_marks (hr.mono (by decide)) rfl (pa_cons (pe_ix ix_list (pv 4) (pv 5) (fun _ _ => rfl)) pa_nil)) (pe_lc (own := [("_law_k", 7)]) (g := gName 7) (tt := tYes) (by rfl) sc_law.nd (pi_range1 (by rfl) (m_range T) (pa_cons pe_int pa_nil)) (blkOk_by (own := [("_law_k", 7)]) (N := N_law) (sc := defScope s_law) (by decide +kernel)) (fun _ _ _ _ _ => (pg_name (i := 7) sc_law.nd rfl (Or.inl rfl))) (fun _ _ _ _ _ => pts_nil) (fun _ _ _ _ _ => (pe_cmpR op_eq (pv 7) (pv 5) (nomark _)))) (nomark _)) (pss_one (ps_ret pe_bl)) pss_nil))))))) (pss_cons (ps_set (i := 6) sc_law.nd rfl (Or.inl rfl) (pe_lamF (T := TT K) hf_law_caught gd rfl rfl (hr.mono (by decide)) rfl TB rfl (List.mem_singleton.mpr rfl) (fun p hp _ => by rw [List.mem_singleton.mp hp]; rfl) (LamX.lamS_by (show LamX.lamSB (defScope s_law) _ = true by decide +kernel)) rfl (fun _ _ _ _ _ => rfl) (fun A outer s H E f c hr => (pe_hasX h_law_thrown (passes_call (takes_of rfl rfl rfl rfl) (fun _ _ _ _ z => z)) (hr.mono (by decide)) rfl (pa_cons (pv 3) pa_nil))) pa_nil)) (pss_one (ps_if (PW.pt (pw_or (pt_not (pt_val (pe_callB call_isErr (by rfl) (m_isinstance T) boot_isinstance (pa_cons (pv 6) (pa_cons (pe_glob (v := .ref (He.ga K "Barred")) rfl (g_Barred T) rfl) pa_nil))))) (pw_or1 (pt_cmpR op_ne (pe_callB (call_reprQ gd hr.units B) (by rfl) (m_repr T) boot_repr (pa_cons (pe_errF (pv 6)) pa_nil)) (pe_callB (call_reprQ gd hr.units B) (by rfl) (m_repr T) boot_repr (pa_cons (pv 3) pa_nil)) (nomark _))))) (pss_one (ps_ret pe_bl)) pss_nil)))))) (pss_one (ps_ret pe_bl)))), ?_⟩
    refine ⟨_, rfl, a, ns, rfl, hS, hlen, fun d H1 s1 qd dr => ?_⟩
    have hS1 := s1.seq hS
    have tb1 := tb.ext s1
    obtain ⟨m, em, hm⟩ : ∃ m : Nat, (3 : Int) + (if (12 : Int) < (((ns.map V.int).length : Nat) : Int) then (12 : Int) else (((ns.map V.int).length : Nat) : Int)) = (m : Int) ∧ m ≤ 20 := by
      by_cases h : (12 : Int) < ((ns.map V.int).length : Nat)
      · rw [if_pos h]
        exact ⟨15, rfl, by decide⟩
      · rw [if_neg h]
        exact ⟨3 + (ns.map V.int).length, by omega, by omega⟩
    refine ⟨_, rfl, a, _, rfl, .inl hS1, _, _, rfl, _, _, rfl, rfl, (m : Int), congrArg (fun z => [V.int z]) em, ?_⟩
    refine ⟨by omega, by omega, ?_⟩
    rw [show Int.toNat (m : Int) = m from Int.toNat_natCast m]
    refine for_range (fun i σ H' => ∃ o2 o3 o4 o5 o6 o7 : Option V, σ = [some (.ref a), some (.ref d), o2, o3, o4, o5, o6, o7] ∧ Dr P w (4 * i) H' d ∧ LamX.Tabs (TT K) H') ⟨_, _, _, _, _, _, rfl, dr, tb1⟩ ?_ ?_
    · rintro i σ H2 hi ⟨o2, o3, o4, o5, o6, o7, rfl, dr2, tb2⟩
      refine ⟨_, rfl, 4 * i, d, rfl, by omega, dr2, fun v dd H3 hd hv sm3 dr3 => ?_⟩
      have tb3 := tabs_smd tb2 dr2 sm3
      have gd1 := good_one (any_good dd hd)
      have gd2 := good_rep (any_good dd hd)
      refine ⟨_, rfl, v, rfl, fun l4 H4 s4 er4 => ?_⟩
      refine ⟨_, rfl, v, rfl, fun l5 H5 s5 er5 => ?_⟩
      refine ⟨by simp [sizeLine_eq], fun l6 q6 => ?_⟩
      generalize e6 : upd _ _ _ = H6; have s6 := new_s e6 q6; have f6 := new_f e6
      have s36 := (s4.trans s5).trans s6
      have er4' := (er4.same s5).same s6
      have er5' := er5.same s6
      refine ⟨l6, rfl, ⟨_, SqL.of f6⟩, for_list (K := K) (a := l6) (xs := [.ref l4, .ref l5]) (fun _ σ H' => ∃ o4 o5 o7 : Option V, σ = [some (.ref a), some (.ref d), some (.int (0 + i)), some v, o4, o5, o6, o7] ∧ Same H6 H') ⟨_, _, _, rfl, Same.refl _⟩ ?_ ?_ ?_⟩
      · rintro j σ H' _ ⟨_, _, _, _, sm⟩
        exact SqL.of (sm _ _ f6)
      · rintro j x σ H7 hx ⟨o4, o5, o7, rfl, s67⟩
        obtain ⟨l, rfl, er⟩ : ∃ l, x = .ref l ∧ ErrsAt K H6 l v := by
          have m := List.mem_of_getElem? hx
          simp only [List.mem_cons, List.not_mem_nil, or_false] at m
          rcases m with rfl | rfl
          · exact ⟨l4, rfl, er4'⟩
          · exact ⟨l5, rfl, er5'⟩
        have er7 := er.same s67
        have hv7 := (hv.same s36).same s67
        refine ⟨_, rfl, l, v, rfl, er7, fun p8 H8 s8 f8 => ?_⟩
        have hv8 := hv7.same s8
        have rep : ∀ (n : Nat) {H : Hp}, Dq K H v dd → DqAll K H (List.replicate n v) (List.replicate n dd) := fun n {H} q => by
          induction n with
          | zero => exact .nil
          | succ n ih => exact .cons q ih
        refine ⟨_, .list (List.replicate 17 dd), rfl, .lst f8 (rep 17 hv8), gd2.sh, gd2.dp, gd2.ln, ?_⟩
        refine ⟨_, rfl, by simp [sizeLine_eq], fun l9 q9 => ?_⟩
        generalize e9 : upd _ _ _ = H9; have s9 := new_s e9 q9; have f9 := new_f e9
        refine ⟨l9, 17, _, rfl, rfl, f9, by decide, by decide, by simp [sizeLine_eq], fun l10 q10 => ?_⟩
        generalize e10 : upd _ _ _ = H10; have s10 := new_s e10 q10; have f10 := new_f e10
        have f10 : H10 l10 = some (.lst (List.replicate 17 v)) := f10
        refine ⟨_, .list (List.replicate 17 dd), rfl, .lst f10 (rep 17 ((hv8.same s9).same s10)), gd2.sh, gd2.dp, gd2.ln, rfl, _, rfl, ?_⟩
        rw [decide_eq_true rfl]
        refine iteF ?_
        have s610 := ((s67.trans s8).trans s9).trans s10
        have er10 := er.same s610
        refine ⟨17, rfl, by decide, by decide, ?_⟩
        show ∃ W : Nat → Nat → L2.St → Hp → Prop, _
        refine for_range (n := 17) (fun _ σ H' => ∃ o5 o7 : Option V, σ = [some (.ref a), some (.ref d), some (.int (0 + i)), some v, some (.ref l), o5, o6, o7] ∧ Same H6 H') ⟨_, _, rfl, s610⟩ ?_ ?_
        · rintro y σ H11 hy ⟨o5, o7, rfl, s611⟩
          have er11 := er.same s611
          obtain ⟨p, hp⟩ : ∃ p, cls17[y]? = some p := ⟨_, List.getElem?_eq_getElem (show y < cls17.length from hy)⟩
          obtain ⟨as, b, h1, n1, e1, zd, u1, w1⟩ := er11.at_ hp
          have ec : ErrC K (He.ga K p.1) := ec17 T (List.mem_of_getElem? hp)
          have e2 : atI (as.map V.ref) (0 + (y : Int)) = some (.ref b) := by
            rw [Int.zero_add]
            exact atI_nat e1
          refine ⟨_, rfl, _, rfl, l, _, _, _, rfl, rfl, SqL.of h1, e2, b, _, _, _, _, true, rfl, u1, fun z e => ⟨_, by cases e; exact w1⟩, ec, fun u r => r, kitL T hp, true, rfl, iteF ?_⟩
          refine ⟨_, rfl, _, rfl, l, _, _, _, rfl, rfl, SqL.of h1, e2, b, _, _, _, _, true, rfl, u1, fun z e => ⟨_, by cases e; exact w1⟩, ec, fun u r => r, kitV T hp, true, rfl, iteF ?_⟩
          refine ⟨_, rfl, _, rfl, l, _, _, _, rfl, rfl, SqL.of h1, e2, b, v, p, rfl, List.mem_of_getElem? hp, ⟨zd, u1, w1⟩, fun l12 H12 s12 f12 => ?_⟩
          rw [marks_eq y hy p hp] at f12
          refine ⟨17, rfl, by decide, by decide, fun D qD => ?_⟩
          refine lc_range (n := 17) (fun j H' => H' = upd H12 D (.lst ((List.range j).map fun x => .bl (decide (x = y))))) rfl ?_ ?_
          · rintro j H' hj rfl
            refine ⟨rfl, yes_ ⟨_, rfl, _, rfl, rfl, _, upd_same, by simp [sizeLine_eq]; omega, ?_⟩⟩
            rw [upd_upd, List.range_succ, List.map_append]
            have ed : decide (V.int (0 + (j : Int)) = V.int (0 + (y : Int))) = decide (j = y) := decide_eq_decide.mpr ⟨fun z => by have := V.int.inj z; omega, fun z => by rw [z]⟩
            rw [ed]
            rfl
          · rintro H' rfl
            generalize e13 : upd H12 D _ = H13; have s13 := new_s e13 qD; have f13 := new_f e13
            obtain ⟨m1, m2⟩ := marks_ok y hy
            have dm : ∀ {H : Hp}, DpAll K H ((List.range 17).map fun j => V.bl (decide (j = y))) (marksD y) := fun {H} => by
              have z := dpa_bl (K := K) (H := H) ((List.range 17).map fun j => decide (j = y))
              rw [List.map_map, List.map_map] at z
              exact z
            refine ⟨.list (marksD y), .list (marksD y), .lst (SqL.of (s13 _ _ f12)) dm, .lst (SqL.of f13) dm, m1, m1, _, rfl, ?_⟩
            rw [m2]
            exact iteF ⟨_, _, rfl, (s611.trans s12).trans s13⟩
        · rintro σ H11 ⟨o5, o7, rfl, s611⟩
          exact ⟨_, _, _, rfl, s611⟩
      · rintro σ H7 ⟨o4, o5, o7, rfl, s67⟩
        have s37 := s36.trans s67
        have tb7 := tb3.ext s37
        have dr7 := dr3.same s37
        have hv7 := hv.same s37
        refine ⟨tb7, fun f c' H8 eN tb8 nf hc => ⟨hc, rfl, ?_⟩⟩
        refine ⟨_, rfl, v, rfl, fun d9 n9 => ⟨of_decide_eq_true (ke01 T), fun a9 m9 => ?_⟩⟩
        generalize e10 : upd (upd _ _ _) _ _ = H10
        obtain ⟨s10, r10, _⟩ := err_new (K := K) n9 m9 e10
        have hv10 := (hv7.kpt (kpt_ext eN)).same s10
        have dr10 := (dr_ext dr7 eN).same s10
        have tb10 := tb8.ext s10
        obtain ⟨zd, u1, w1⟩ := id r10
        refine ⟨_, rfl, a9, _, _, _, _, true, rfl, u1, fun z e => ⟨_, by cases e; exact w1⟩, er_Barred T, fun u r => r, kit17 T (i := 6) (j := 6) rfl rfl, true, rfl, iteF ?_⟩
        refine ⟨_, rfl, a9, _, zd, _, v, rfl, u1, w1, er_Barred T, nf_Barred T, rfl, _, dd, rfl, hv10, gd1.sh, gd1.dp, gd1.ln, _, rfl, _, dd, rfl, hv10, gd1.sh, gd1.dp, gd1.ln, rfl, _, rfl, ?_⟩
        rw [decide_eq_true rfl]
        exact iteF ⟨_, _, _, _, _, _, rfl, dr10.mono (by omega), tb10⟩
    · rintro σ H2 ⟨o2, o3, o4, o5, o6, o7, rfl, dr2, tb2⟩
      exact k _
end

end HL

namespace HL
open PySem PySem.Spec PyProof.Rows L2


abbrev R : PySem.W.OpenRow := PySem.W.OpenLaw.row PySem.Challenge.rw_heldlives_k01_errors_by_class
def loose0 : List Str := ["LifeError", "BadBook", "BadPart", "BadDepth", "BadParts", "NoPart", "NoWant", "Barred", "NoScope", "Busy", "Waiting", "NoRequest", "NoWork", "BadDeed", "BadFault", "BadStand", "BadBorder", "BadText", "_law_begun", "_law_mixed"]
def loose1 : List Str := ["_law_take", "_law_pick", "_law_caught", "_law_odd", "_law_any", "_law_each", "_law_named", "_law_kept", "_law_marks", "_law_thrown"]
def loose : List Str := loose0 ++ loose1
abbrev hk : PySem.W.Hook := hookS 7 fa tabs lamd exB fn
def ob (s : PySem.W.SharedT) : AlS := obsS 7 fa tabs lamd exB fn (HandSHeadRun.getT s)
theorem ob_eq (s : PySem.W.SharedT) : ob s = hk.obs s.abs := obsS_eq (HandSHeadRun.getT_eq s)
theorem run (w : World) : HandSHeadRun.RunEq R (PySem.W.view R.prog [32]) hk ob 6000 loose w := by
  intro os
  kernel_rfl
end HL

open PySem PySem.W PySem.Calls PyProof.Rows
theorem PySem.Challenge.cw_heldlives_k01_errors_by_class_holds : PySem.Challenge.rw_heldlives_k01_errors_by_class.Holds := by
  w_on; o_law
  refine HandSHeadRun.head_any (r := OpenLaw.row PySem.Challenge.rw_heldlives_k01_errors_by_class) (q := view (OpenLaw.row PySem.Challenge.rw_heldlives_k01_errors_by_class).prog [32]) (H := HL.hk) (ob := HL.ob) (M := 6000) (loose := HL.loose) (d := HandSHeadRun.topDef (OpenLaw.row PySem.Challenge.rw_heldlives_k01_errors_by_class).prog 32) (kwd := []) HL.ob_eq
    (by kernel_rfl) (fun s => by kernel_rfl) HL.run (by kernel_rfl) (by kernel_rfl) (by kernel_rfl) (by rfl) (by first | assumption | decide +kernel) (by decide +kernel) ⟨rfl, rfl, rfl, rfl, rfl, by decide +kernel⟩ ?hw ?hc
  case hw => w_witness2
  case hc =>
    refine HL.walkS (l := PySem.Challenge.rw_heldlives_k01_errors_by_class) (n := 63) (k := 6) (x := "_law_script") (cx := fun _ => L2.CX0) rfl (by decide) (by kernel_rfl) ⟨rfl, by decide, by decide⟩ ?F (fun _ _ _ _ _ z => z)
    intro w mg fa h Y G hmg0
    obtain ⟨bo, K, KX, c⟩ := Y
    have hmg : mg ("law" : PySem.Str) = some (.ref fa) := by
      have e : (HandSHeadRun.topDef (OpenLaw.row PySem.Challenge.rw_heldlives_k01_errors_by_class).prog 32).name = ("law" : PySem.Str) := by kernel_rfl
      rw [← e]
      exact hmg0
    have T : HL.Tx K mg := ⟨w, h, c, KX, G⟩
    obtain ⟨fd, F⟩ := HL.d_law T
    have ef := hmg.symm.trans (HL.g_law T)
    cases ef
    have b := L2.FunD.bindsA (ps := ["_law_script"]) F fun _ _ _ _ _ _ us hl => match us, hl with | [_], _ => rfl
    have mem : (("law", none) : He.Defn) ∈ HL.lamd := by decide
    refine ⟨bo, K, KX, fd, [He.cT K ("law", none)], HL.spLaw K, (fun p hp => by rw [List.mem_singleton.mp hp]; exact c.x.empty _ mem), (fun p hp => by rw [List.mem_singleton.mp hp]; exact c.x.out _ mem), (fun p hp => by rw [List.mem_singleton.mp hp]; exact PySem.W.codeHd_of_K KX (c.x.hd _ mem)), fun s u => b s [u] rfl,
      fun H a ns hl _ hT hS => ⟨a, ns, rfl, hS, hl, fun p hp => by rw [List.mem_singleton.mp hp]; exact LamX.TabS.nil (hT _ (List.mem_singleton.mpr rfl)), fun _ => rfl⟩, fun base _ _ tb bb => ?_⟩
    exact HL.fn_law (P := (PySem.Challenge.rw_heldlives_k01_errors_by_class).prog) (w := w) (base := base) T bb (tb _ (List.mem_singleton.mpr rfl)) F
