import PyProof.Rows.All
import Wide.All
import OpenK.AllK
import Wide.FinOn
import KE.KStateDown
import HandS.ForMost
import HandS.More
import HandS.Exc
import HandS.Defaults
import HandS.Lambda
import HandS.EndBits
import HandS.EndTab
import PyProof.ReprRoads
import HandS.Evl
import HandS.IsInst
import HandS.TupAny
import HandS.Style
import PyProof.Rows.StrMeet
import HandS.OwnEq
import HandS.Property
import HandS.MakeKwOnly
import HandS.Head0
import HandS.Head1
import HandS.Head2
import HandS.HeadEnd
import HandS.HeadHook1
import HandS.HeadHook2
import HandS.HeadHook3
import HandS.HeadHook4
import HandS.HeadWalk
import PyProof.TupleOfSeq
import HandS.Strs
import PySem.Challenge.RW_heldlives_k33_lacking_and_wrong_stands
set_option Elab.async false
set_option linter.all false
set_option maxRecDepth 100000
set_option maxHeartbeats 4000000
namespace HL
open PySem PySem.Spec PyProof.Rows L2

/-! ### defs that are called where no repr is under way -/
structure FnG (P : Program) (w : World) (K : PySem.W.Frag) (mg : Str → Option Value) (base : Heap) (cx : CXT) (k : Nat) (f : Addr) (fd : FuncData) (ps : List Str) (sp : Sp) : Prop where
  glen : ∀ vs H Q E, sp vs H Q E → vs.length = ps.length
  grun : ∀ (A : Around) (outer : List Env) (s : Shared) (H : Hp) (args : Args) (us : List Value) (vs : List V) (Q : VK) (E : XK),
    A.guards = some [] → Room k A → Env0 P w K mg base A outer s H → BindsTo s fd args (ps.zip us) → Vals vs us → sp vs H Q E →
    codeAny (model P w) A (.call (.ref f) args) (CR cx outer P w H s Q E) s

section
variable {P : Program} {w : World} {K : PySem.W.Frag} {mg : Str → Option Value} {base : Heap} {cx : CXT} {k : Nat} {f : Addr} {fd : FuncData} {ps : List Str} {sp : Sp}
theorem FnG.of (F : FnOk P w K mg base cx k f fd ps sp) : FnG P w K mg base cx k f fd ps sp :=
  ⟨F.len, fun A outer s H args us vs Q E _ => F.run A outer s H args us vs Q E⟩
theorem FnG.up {j : Nat} (F : FnG P w K mg base cx j f fd ps sp) (h : j ≤ k) : FnG P w K mg base cx k f fd ps sp :=
  ⟨F.glen, fun A outer s H args us vs Q E g r => F.grun A outer s H args us vs Q E g (r.mono h)⟩
end

section
variable {X : Cx} {cx : CXT} {k : Nat} {f : Addr} {fd : FuncData} {ps : List Str} {sp : Sp} {dvs : List V} {ds : List Value} {E : XK} {x : Str} {p pos : Pos} {e : Expr} {es : List Expr} {t : TA}
/-- f(e, ..) -/
theorem pe_callg (F : FnG X.prog X.w X.K X.mg X.base cx k f fd ps sp) (gd : X.A.guards = some []) (hr : Room k X.A) (hg : Gl X x) (hm : X.mg x = some (.ref f))
    (hk : PySem.W.keepIn X.K (.ref f) = true) (hb : Binds X.K fd ps ds) (hd : Vals dvs ds) (hx : Passes cx X E) (ha : PA X (e :: es) t)
    (hdb : (x == ("__debug__" : Str)) = false := by decide) (he : starEach (e :: es) X.env = (false, eval e X.env) :: starEach es X.env := by rfl)
    (hpl : (backTo pos (starEach es X.env)).any (·.1) = false := by rfl) : PE X (.Call (.Name x p) (e :: es) [] pos) (tCall sp dvs E t) := by
  refine ⟨fun pins s σ H Q I h => wpAny_Call_Name_kw (ld_glob I hg hm ?_ hdb)⟩
  refine PySem.W.callWith_K (h₀ := X.base) I.ok.mod.kin hk ?_ he hpl
  refine thn (ha.run pos pins s σ H _ I h) fun us s1 hh => ?_
  obtain ⟨vs, H1, I1, r, q⟩ := hh
  have r2 : Vals (vs ++ dvs) (us ++ ds) := r.append hd
  have hl : (us ++ ds).length = ps.length := r2.length.symm.trans (F.glen _ _ _ _ q)
  refine ⟨I1.kIn, wpAny_call (codeAny_mono (F.grun X.A X.stack s1 H1 ⟨us, []⟩ _ _ Q E gd hr I1.env0 (hb s1 us I1.kIn hl) r2 q) fun res s2 hq => ?_)⟩
  match res, hq with
  | .error e', hq => exact hx pins σ H1 s1 e' s2 I1 hq
  | .ok (.ret u), hq => exact I1.after hq
end

section
variable {P : Program} {w : World} {K : PySem.W.Frag} {mg : Str → Option Value} {base : Heap}
/-- a def of the text as a datum: where it stands and what it is -/
abbrev FnP (K : PySem.W.Frag) (x q : Str) (st : Stmt) (dv : List V) (kw : List (Str × V)) (f : Addr) (fd : FuncData) : Prop :=
  FunD K x q (defArgs st) (defBody st) (defScope st) dv kw f fd
theorem okG {x q : Str} {st : Stmt} {dv : List V} {kw : List (Str × V)} {f : Addr} {fd : FuncData} {N ps : List Str} {k : Nat} {sp : Sp} (F : FnP K x q st dv kw f fd) (S : FnScope N ps (defScope st))
    (len : ∀ vs H Q E, sp vs H Q E → vs.length = ps.length)
    (hb : ∀ (cdv : Value) (A : Around) (outer : List Env) (s : Shared) (H : Hp) (vs : List V) (Q : VK) (E : XK), A.guards = some [] → Room k (A.deeper (envOfC q (defScope st) s.heap.objs.size f cdv)) → sp vs H Q E →
      ∃ t, PSs (cxOf CX0 P w K mg base N q (defScope st) f cdv A outer s H E).nox (defBody st) t ∧ t { nx := fun _ H' => Q .non H', rt := Q } (start N vs) H) :
    FnG P w K mg base CX0 (k + 1) f fd ps sp := by
  obtain ⟨⟨oc, od, dV, kV, doc, pm, an, cdv, ct, osl, rfl, lk, hcd, _⟩, _⟩ := F
  refine ⟨len, fun A outer s H args us vs Q E g hr e0 bt r h => ?_⟩
  refine LamX.run_ofS (N := N) lk hcd S hr e0 bt r (len _ _ _ _ h) fun hr' => ?_
  obtain ⟨t, h1, h2⟩ := hb cdv A outer s H vs Q E g hr' h
  exact ⟨t, h1.nox, h2⟩
end

/-! ### repr of data -/
def rRepr (K : PySem.W.Frag) : List V → Hp → VK → Prop := fun xs H Q => ∃ x d, xs = [x] ∧ Dp K H x d ∧ d.showable = true ∧ d.hasDict = false ∧ d.depth ≤ 60 ∧ d.shown.length ≤ sizeLine ∧ Q (.str d.shown) H
theorem call_repr {X : Cx} (gd : X.A.guards = some []) (hu : X.A.units + 64 < cLine) : CallR X (.builtin "repr") (rRepr X.K) := by
  intro pins s σ H xs us Q I r h
  obtain ⟨x, d, rfl, hd, hs, hn, hdp, hz, q⟩ := h
  cases r with
  | cons r0 rn =>
    cases rn
    cases hd with
    | non =>
      cases r0
      exact PySem.P.repr_of_none ⟨V.str "None", H, I.tok _, ⟨_, rfl⟩, q⟩
    | bl b =>
      cases r0
      exact PySem.P.repr_of_bool ⟨V.str (if b then "True" else "False"), H, I.tok _, ⟨_, rfl⟩, q⟩
    | int i =>
      obtain ⟨t, rfl⟩ := r0
      exact PySem.P.repr_of_int (by simpa [PyData.showable] using hs) ⟨V.str (toString i), H, I.tok _, ⟨_, rfl⟩, q⟩
    | str z =>
      obtain ⟨t, rfl⟩ := r0
      exact PySem.P.repr_of_str ⟨V.str (reprText z), H, I.tok _, ⟨_, rfl⟩, q⟩ hz
    | lst h1 h2 =>
      cases r0
      obtain ⟨as, rr⟩ := Dp.reads I _ _ _ (Dp.lst h1 h2) rfl
      exact repr_of_reads' (h₀ := s.heap) rr hs (fun z => by rw [hn] at z; cases z) gd (by omega) (fun _ _ e => e) (fun h' u tk hk => ⟨V.str (PyData.shown _), H, I.kept (t' := tk) hk, ⟨_, rfl⟩, q⟩) hz
    | tup h1 h2 =>
      cases r0
      obtain ⟨as, rr⟩ := Dp.reads I _ _ _ (Dp.tup h1 h2) rfl
      exact repr_of_reads' (h₀ := s.heap) rr hs (fun z => by rw [hn] at z; cases z) gd (by omega) (fun _ _ e => e) (fun h' u tk hk => ⟨V.str (PyData.shown _), H, I.kept (t' := tk) hk, ⟨_, rfl⟩, q⟩) hz
end HL

namespace HL
open PySem PySem.Spec PyProof.Rows L2
/-- the abstract heap at a law's entry: the tables, and the script where the module does not hold it -/
def entryHp (K : PySem.W.Frag) (ts : List Addr) (a : Addr) (o : Obj) (xs : List V) : Hp := fun b =>
  if b ∈ ts then some (.tbl #[]) else if b = a ∧ K.lookup a = none then some (.frz o (.lst xs)) else none
section
variable {K : PySem.W.Frag} {ts : List Addr} {a : Addr} {o : Obj} {xs : List V}
theorem entry_tab {b : Addr} (h : b ∈ ts) : entryHp K ts a o xs b = some (.tbl #[]) := if_pos h
theorem entry_cases (b : Addr) : (b ∈ ts ∧ entryHp K ts a o xs b = some (.tbl #[])) ∨ (b ∉ ts ∧ b = a ∧ K.lookup a = none ∧ entryHp K ts a o xs b = some (.frz o (.lst xs))) ∨ (b ∉ ts ∧ entryHp K ts a o xs b = none) := by
  by_cases h : b ∈ ts
  · exact .inl ⟨h, if_pos h⟩
  · by_cases h2 : b = a ∧ K.lookup a = none
    · exact .inr (.inl ⟨h, h2.1, h2.2, (if_neg h).trans (if_pos h2)⟩)
    · exact .inr (.inr ⟨h, (if_neg h).trans (if_neg h2)⟩)
end
theorem lawG {P : Program} {w : World} {K : PySem.W.Frag} {mg mb : Str → Option Value} {cx : CXT} {k : Nat} {fa a : Addr} {cs : List (Addr × Addr)} {fd : FuncData} {x : Str} {sp : Sp} {s : Shared} {us : List Value} {ns : List Int}
    (KX : K.In s.heap) (gl : s.heap.Ns mainGlobals mg) (bl : s.heap.Ns builtinsNs mb) (bb : ∀ x : Str, x ≠ "__name__" → mb x = bootBuiltins x) (lim : s.heap.NoLimit) (ge : s.gens = #[])
    (tE : ∀ p ∈ cs, s.heap.get? p.2 = some { cls := .none, data := .fields #[] }) (tN : ∀ p ∈ cs, K.lookup p.2 = none) (tC : ∀ p ∈ cs, PySem.W.CodeHd s.heap p.1 p.2)
    (bm : ∃ (m : Addr) (ob : Obj), mg "__builtins__" = some (.ref m) ∧ m ≠ builtinsNs ∧ s.heap.get? m = some ob ∧ ob.cls = .type "module" ∧ ob.dict = some builtinsNs ∧ ob.data = .plain)
    (ha : s.heap.get? a = some { cls := .type "list", data := .seq us.toArray }) (hi : IntsAre us ns) (hl : ns.length ≤ sizeLine) (hr : Room k callerA)
    (F : ∀ base : Heap, K.In base → base.Ns mainGlobals mg → (∀ p ∈ cs, LamX.TabB base mg p.1 p.2) → FnG P w K mg base cx k fa fd [x] sp) (hb : ∀ (s : Shared) (u : Value), BindsTo s fd ⟨[u], []⟩ [(x, u)])
    (hsp : ∀ H : Hp, (∀ p ∈ cs, H p.2 = some (.tbl #[])) → SqL K H a (ns.map V.int) → sp [.ref a] H (fun v _ => v = .bl true) fun _ _ _ => False)
    (hcx : ∀ H e s', cx [] H s (fun _ _ _ => False) e s' → False) :
    codeAny (model P w) callerA (.call (.ref fa) ⟨[.ref a], []⟩) (fun r s' => r = .ok (.ret (.bool true)) ∧ OldK s.heap s'.heap ∧ s'.os = s.os ∧ AllBare s'.gens) s := by
  have tabOf : ∀ b, b ∈ cs.map (·.2) → ∃ p ∈ cs, p.2 = b := fun b hb => by simpa using hb
  have tG : ∀ b, b ∈ cs.map (·.2) → s.heap.get? b = some { cls := .none, data := .fields #[] } := fun b hb => by
    obtain ⟨p, hp, rfl⟩ := tabOf b hb
    exact tE p hp
  have nA : a ∉ cs.map (·.2) := fun hb => by
    have q := (tG a hb).symm.trans ha
    have q2 := congrArg Obj.data (Option.some.inj q)
    cases q2
  generalize hH : entryHp K (cs.map (·.2)) a { cls := .type "list", data := .seq us.toArray } (ns.map V.int) = H
  have cas : ∀ b, (b ∈ cs.map (·.2) ∧ H b = some (.tbl #[])) ∨ (b ∉ cs.map (·.2) ∧ b = a ∧ K.lookup a = none ∧ H b = some (.frz { cls := .type "list", data := .seq us.toArray } (.lst (ns.map V.int)))) ∨ (b ∉ cs.map (·.2) ∧ H b = none) := fun b => by
    rw [← hH]
    exact entry_cases b
  have hT : ∀ p ∈ cs, H p.2 = some (.tbl #[]) := fun p hp => by
    rw [← hH]
    exact entry_tab (List.mem_map.mpr ⟨p, hp, rfl⟩)
  have rv := vals_ints hi
  have sq : SqL K H a (ns.map V.int) := by
    cases q : K.lookup a with
    | some o =>
      have e := (KX a o q).symm.trans ha
      have eo := Option.some.inj e
      subst eo
      exact .inr ⟨_, us.toArray, _, q, rfl, rfl, rfl, by simpa [hi.length] using hl, by simpa using rv⟩
    | none =>
      rcases cas a with ⟨z, _⟩ | ⟨_, _, _, z⟩ | ⟨_, z⟩
      · exact absurd z nA
      · exact .inl (.inr ⟨_, z⟩)
      · rw [← hH] at z
        have z2 := (show entryHp K (cs.map (·.2)) a { cls := .type "list", data := .seq us.toArray } (ns.map V.int) a = _ from (if_neg nA).trans (if_pos ⟨rfl, q⟩)).symm.trans z
        cases z2
  have hok : HOk P w H s.heap := fun b u e => by
    rcases cas b with ⟨h1, h2⟩ | ⟨_, h1, _, h2⟩ | ⟨_, h2⟩
    · have e1 := Option.some.inj (e.symm.trans h2)
      subst e1
      exact tG b h1
    · have e1 := Option.some.inj (e.symm.trans h2)
      subst e1 h1
      exact ⟨ha, by simpa using hl, us, _, rv, ha⟩
    · rw [h2] at e
      cases e
  -- what is no empty record and no list isn't tracked
  have off : ∀ {b : Addr} {o : Obj}, s.heap.get? b = some o → o.data ≠ .fields #[] → (∀ v n, o.data ≠ .seq v n) → H b = none := fun {b o} e n1 n2 => by
    rcases cas b with ⟨h1, _⟩ | ⟨_, h1, _, _⟩ | ⟨_, h2⟩
    · rw [tG b h1] at e
      cases e
      exact absurd rfl n1
    · rw [h1, ha] at e
      cases e
      exact absurd rfl (n2 _ _)
    · exact h2
  have nsB : ∀ {b : Addr} {m : Str → Option Value}, s.heap.Ns b m → (hidT s.heap H).Ns b m := fun {b m} ⟨o, es, ep, e, d, r⟩ =>
    ⟨o, es, ep, hidT_get e (off e (by rw [d]; intro z; cases z) (by rw [d]; intro v n z; cases z)), d, r⟩
  have kB : K.In (hidT s.heap H) := fun b o e => hidT_get (KX b o e) (by
    rcases cas b with ⟨h1, _⟩ | ⟨_, h1, h3, _⟩ | ⟨_, h2⟩
    · obtain ⟨p, hp, rfl⟩ := tabOf b h1
      rw [tN p hp] at e
      cases e
    · rw [h1, h3] at e
      cases e
    · exact h2)
  have tb : ∀ p ∈ cs, LamX.TabB (hidT s.heap H) mg p.1 p.2 := fun p hp => by
    refine ⟨?_, ?_, fun z => ?_⟩
    · obtain ⟨o, vs, fi, tf, fl, tg, inF, tx, tt, e1, r1, r2, r3, r⟩ := tC p hp
      refine ⟨o, vs, fi, tf, fl, tg, inF, tx, tt, hidT_get e1 (off e1 (fun z => ?_) fun v n z => ?_), r1, r2, r3, r⟩
      · rw [r2] at z
        cases z
        simp at r3
      · rw [r2] at z
        cases z
    · obtain ⟨m, ob, b1, b2, b3, b4, b5, b6⟩ := bm
      refine ⟨m, ob, b1, b2, fun q => ?_, fun q => ?_, hidT_get b3 (off b3 (by rw [b6]; intro z; cases z) (by rw [b6]; intro v n z; cases z)), b4, b5, b6⟩
      · obtain ⟨o, es, ep, e, hd, _⟩ := gl
        rw [q, e] at b3
        cases b3
        rw [hd] at b6
        cases b6
      · rw [q, tE p hp] at b3
        cases b3
        cases b6
    · obtain ⟨o, es, ep, e, hd, _⟩ := gl
      rw [z, tE p hp] at e
      cases e
      cases hd
  have md : L2.Mod K mg (hidT s.heap H) := ⟨kB, nsB gl, ⟨mb, nsB bl, bb⟩, by
    obtain ⟨mc, h1, h2⟩ := lim
    exact ⟨mc, nsB h1, h2⟩⟩
  have e0 : Env0 P w K mg (hidT s.heap H) callerA [] s H := ⟨rfl, md, fun b o e => of_hidT e, Nat.le_of_eq (hidT_size _ _), trivial, fun b z => absurd (show b ∈ ([] : List Addr) from z) (by simp), hok, .of_eq ge⟩
  refine codeAny_mono ((F _ kB (nsB gl) tb).grun callerA [] s H ⟨[.ref a], []⟩ [.ref a] [.ref a] _ _ rfl hr e0 (hb s (.ref a)) (.cons rfl .nil) (hsp H hT sq)) fun r s' h => ?_
  match r, h with
  | .error e, h => exact (hcx H e s' h).elim
  | .ok (.ret u), h =>
    obtain ⟨v, H', os, bare, un, hok', rr, q⟩ := h
    have q1 : v = .bl true := q
    subst q1
    cases rr
    have stays : ∀ b o, b ∉ cs.map (·.2) → s.heap.get? b = some o → s'.heap.get? b = some o := fun b o nb e => by
      rcases cas b with ⟨h1, _⟩ | ⟨_, h1, _, h2⟩ | ⟨_, h2⟩
      · exact absurd h1 nb
      · obtain ⟨e1, _⟩ := hok b _ h2
        obtain ⟨e2, _⟩ := hok' b _ (un.frzs b _ _ h2)
        rw [e] at e1
        cases e1
        exact e2
      · exact un.keep b o e h2 (fun z => absurd (show b ∈ ([] : List Addr) from z) (by simp)) (by simp)
    refine ⟨rfl, ⟨fun b o e => ?_, fun b o e => ?_⟩, os, bare⟩
    all_goals
      by_cases hb : b ∈ cs.map (·.2)
      · obtain ⟨p, hp, rfl⟩ := tabOf b hb
        obtain ⟨more, z⟩ := un.tbls p.2 #[] (hT p hp)
        have hm : s'.heap.get? p.2 = some { cls := .none, data := .fields (#[] ++ more) } := hok' p.2 _ z
        first
          | (rw [tE p hp] at e
             cases e
             exact .inr (.inl ⟨((tC p hp).tab (tE p hp)).isCodeTable, rfl, #[], more, rfl, hm⟩))
          | exact ⟨_, hm⟩
      · first
          | exact .inl (stays b o hb e)
          | exact ⟨o, stays b o hb e⟩
/-- what is to be said of a law at a world -/
def LawAtG (l : PySem.W.OpenLaw) (w : World) (K : PySem.W.Frag) (cx : CXT) (k n : Nat) (x : Str) (mg : Str → Option Value) (fa : Addr) (h : Heap) : Prop :=
  ∃ (fd : FuncData) (cs : List (Addr × Addr)) (sp : Sp), (∀ p ∈ cs, h.get? p.2 = some { cls := .none, data := .fields #[] }) ∧ (∀ p ∈ cs, K.lookup p.2 = none) ∧ (∀ p ∈ cs, PySem.W.CodeHd h p.1 p.2) ∧
    (∀ (s : Shared) (u : Value), BindsTo s fd ⟨[u], []⟩ [(x, u)]) ∧
    (∀ (H : Hp) (a : Addr) (ns : List Int), ns.length ≤ n → (∀ z ∈ ns, Builtin.Int.intBits z ≤ 1048576) → (∀ p ∈ cs, H p.2 = some (.tbl #[])) → SqL K H a (ns.map V.int) → sp [.ref a] H (fun v _ => v = .bl true) fun _ _ _ => False) ∧
    ∀ base : Heap, K.In base → base.Ns mainGlobals mg → (∀ p ∈ cs, LamX.TabB base mg p.1 p.2) → FnG l.prog w K mg base cx k fa fd [x] sp
theorem walkG {l : PySem.W.OpenLaw} {n k : Nat} {q : Program} {loose : List Str} {XP : (Str → Option Value) → Heap → Prop} {YP : World → Heap → Prop} {d : DefRec} {cx : World → CXT} {x : Str}
    (hn : l.most = some n) (hn2 : n ≤ sizeLine) (hdf : d.params.defaults = []) (hr : Room k callerA)
    (F : ∀ (w : World) (mg : Str → Option Value) (fa : Addr) (h : Heap), YP w h → h.Ns mainGlobals mg → mg d.name = some (.ref fa) → ∃ K : PySem.W.Frag, K.In h ∧ LawAtG l w K (cx w) k n x mg fa h)
    (hcx : ∀ (w : World) (H : Hp) (s : Shared) (e : Value) (s' : Shared), cx w [] H s (fun _ _ _ => False) e s' → False) :
    PySem.W.WalkO q loose XP YP l.row.toRowW d [] (fun f vs => PySem.call f vs) :=
  Att.attach_callB hn hdf fun w s0 s1 mg mb fa o pm cd doc a vs ns G Y ho hd hcd hmg hobj hints hlen hbits hg => by
    obtain ⟨K, KX, fd, cs, sp, h1, h2, h3, h4, h5, h6⟩ := F w mg fa _ Y G.T.g hmg
    exact lawG KX G.T.g G.T.b G.T.builtins G.T.nolimit hg h1 h2 h3 G.T.bmain hobj hints (Nat.le_trans hlen hn2) hr h6 h4 (fun H q1 q2 => h5 H a ns hlen hbits q1 q2) fun H e s' => hcx w H s1 e s'
end HL

namespace HL
open PySem PySem.Spec PyProof.Rows L2
/-! ### things whose content is left open -/
def noHp : Hp := fun _ => none
/-- at a stands something of the kind S, whatever it is -/
def some_ (P : Program) (w : World) (S : HO → Prop) (a : Addr) : HO := .ext fun h => ∃ o, S o ∧ ObjOk P w noHp h a o
/-- a kind of lists and dicts -/
def Flat (S : HO → Prop) : Prop := ∀ o, S o → (∃ xs, o = .lst xs) ∨ ∃ kvs, o = .dK kvs
theorem flat_any {P : Program} {w : World} {S : HO → Prop} (fl : Flat S) {o : HO} (h : S o) {H H' : Hp} {hp : Heap} {a : Addr} (x : ObjOk P w H hp a o) : ObjOk P w H' hp a o := by
  rcases fl o h with ⟨xs, rfl⟩ | ⟨kvs, rfl⟩
  · exact x
  · exact x
theorem some_ok {P : Program} {w : World} {S : HO → Prop} (fl : Flat S) {o : HO} (h : S o) {H H' : Hp} {hp : Heap} {a : Addr} (x : ObjOk P w H hp a o) : ObjOk P w H' hp a (some_ P w S a) := by
  have lt := x.lt
  refine ⟨⟨o, h, flat_any fl h x⟩, ?_, fun h1 h2 hh k => ?_⟩
  · rcases fl o h with ⟨xs, rfl⟩ | ⟨kvs, rfl⟩
    · obtain ⟨_, its, n, _, e⟩ := x
      exact ⟨_, e⟩
    · obtain ⟨_, _, vs, _, ob, es, ep, e, _⟩ := x
      exact ⟨_, e⟩
  · obtain ⟨o', s', y⟩ := hh
    refine ⟨o', s', y.stay (fun b u hb e => ?_) (fun _ z => z) fun _ _ z => z⟩
    rcases hb with rfl | z
    · exact k u e
    · exact nomatch (show (none : Option HO) = _ from z)
section
variable {P : Program} {w : World} {fs ex : List Addr} {S : HO → Prop} {H H' : Hp} {h h' : Heap} {a : Addr} {o o' : HO}
/-- the heap with something known at a, and back -/
theorem hok_swap (ok : HOk P w H h) (ha : H a = some o) (h1 : ∀ c, o ≠ .own c) (h2 : ∀ xs, o ≠ .tup xs) (n : ObjOk P w (upd H a o') h a o') : HOk P w (upd H a o') h := fun b u e => by
  by_cases hb : b = a
  · subst hb
    rw [upd_same] at e
    cases e
    exact n
  · rw [upd_ne hb] at e
    refine (ok b u e).stay (fun _ _ _ q => q) (fun c q => ?_) fun c xs q => ?_
    · rw [upd_ne fun z => by rw [z, ha] at q; exact h1 _ (Option.some.inj q)]
      exact q
    · rw [upd_ne fun z => by rw [z, ha] at q; exact h2 _ (Option.some.inj q)]
      exact q
theorem un_left (u : Un fs ex (upd H a o) H' h h') (ha : H a = some o') (h1 : ∀ xs, o' ≠ .tup xs) (h2 : ∀ z y, o' ≠ .frz z y) (h3 : ∀ z, o' ≠ .tbl z) : Un fs ex H H' h h' := by
  have ne : ∀ b, H b = none → b ≠ a := fun b e z => by
    rw [z, ha] at e
    cases e
  refine ⟨fun b x q n => u.keep b x q (by rw [upd_ne (ne b n)]; exact n), fun b x q n => u.slot b x q (by rw [upd_ne (ne b n)]; exact n), fun b x q n => u.free b x q (by rw [upd_ne (ne b n)]; exact n), u.there, fun b xs q => u.tups b xs ?_, fun b z y q => u.frzs b z y ?_, fun b z q => u.tbls b z ?_⟩
  · rw [upd_ne fun z => by rw [z, ha] at q; exact h1 _ (Option.some.inj q)]
    exact q
  · rw [upd_ne fun z => by rw [z, ha] at q; exact h2 _ _ (Option.some.inj q)]
    exact q
  · rw [upd_ne fun z => by rw [z, ha] at q; exact h3 _ (Option.some.inj q)]
    exact q
theorem un_right (u : Un fs ex H H' h h') (ha : H' a = some o') (h1 : ∀ xs, o' ≠ .tup xs) (h2 : ∀ z y, o' ≠ .frz z y) (h3 : ∀ z, o' ≠ .tbl z) : Un fs ex H (upd H' a o) h h' := by
  refine ⟨u.keep, u.slot, fun b x q n hx => ?_, u.there, fun b xs q => ?_, fun b z y q => ?_, fun b z q => ?_⟩
  · have e := u.free b x q n hx
    rw [upd_ne fun z => by rw [z, ha] at e; cases e]
    exact e
  · have e := u.tups b xs q
    rw [upd_ne fun z => by rw [z, ha] at e; exact h1 _ (Option.some.inj e)]
    exact e
  · have e := u.frzs b z y q
    rw [upd_ne fun z => by rw [z, ha] at e; exact h2 _ _ (Option.some.inj e)]
    exact e
  · obtain ⟨m, e⟩ := u.tbls b z q
    exact ⟨m, by rw [upd_ne fun z => by rw [z, ha] at e; exact h3 _ (Option.some.inj e)]; exact e⟩
end
/-- a promise over what is known at a, as one over something of the kind S there, of the kind S' behind it -/
def spO (P : Program) (w : World) (n : Nat) (sp : Sp) : Sp := fun vs H Q E => vs.length = n ∧ ∃ (a : Addr) (S S' : HO → Prop), Flat S ∧ Flat S' ∧ H a = some (some_ P w S a) ∧
  ∀ o, S o → sp vs (upd H a o) (fun v H' => ∃ o', S' o' ∧ H' a = some o' ∧ Q v (upd H' a (some_ P w S' a))) E
theorem fn_open {P : Program} {w : World} {K : PySem.W.Frag} {mg : Str → Option Value} {base : Heap} {k : Nat} {f : Addr} {fd : FuncData} {ps : List Str} {sp : Sp} (F : FnOk P w K mg base CX0 k f fd ps sp) : FnOk P w K mg base CX0 k f fd ps (spO P w ps.length sp) := by
  refine ⟨fun vs H Q E h => h.1, fun A outer s H args us vs Q E hr e0 bt r hs => ?_⟩
  obtain ⟨_, a, S, S', fl, fl', ha, hp⟩ := hs
  obtain ⟨⟨o, so, ox⟩, _, _⟩ := e0.hok a _ ha
  have ne : ∀ b, H b = none → b ≠ a := fun b e z => by
    rw [z, ha] at e
    cases e
  have keep : ∀ b, H b = none → upd H a o b = none := fun b e => by
    rw [upd_ne (ne b e)]
    exact e
  have e1 : Env0 P w K mg base A outer s (upd H a o) := ⟨e0.frames, e0.mod, fun b ob e => ⟨(e0.bs b ob e).1, keep b (e0.bs b ob e).2⟩, e0.bsz, e0.funs, fun b hb => keep b (e0.frf b hb),
    hok_swap e0.hok ha (by intro c z; cases z) (by intro c z; cases z) (flat_any fl so ox), e0.bare⟩
  refine codeAny_mono (F.run A outer s (upd H a o) args us vs _ E hr e1 bt r (hp o so)) fun res s' q => ?_
  match res, q with
  | .error e, q => exact q
  | .ok (.ret u), q =>
    obtain ⟨v, H', os, ba, un, hok, rv, o', so', ha', q'⟩ := q
    have n1 : (∀ xs, o' ≠ .tup xs) ∧ (∀ z y, o' ≠ .frz z y) ∧ (∀ z, o' ≠ .tbl z) ∧ (∀ c, o' ≠ .own c) := by
      rcases fl' o' so' with ⟨xs, rfl⟩ | ⟨xs, rfl⟩
      all_goals exact ⟨(fun _ z => by cases z), (fun _ _ z => by cases z), (fun _ z => by cases z), (fun _ z => by cases z)⟩
    refine ⟨v, _, os, ba, ?_, hok_swap hok ha' n1.2.2.2 n1.1 (some_ok fl' so' (hok a _ ha')), rv, q'⟩
    exact un_right (un_left un ha (fun _ z => by cases z) (fun _ _ z => by cases z) (fun _ z => by cases z)) ha' n1.1 n1.2.1 n1.2.2.1
/-- what a def has made may be known as something of a kind from then on -/
theorem fn_close {P : Program} {w : World} {K : PySem.W.Frag} {mg : Str → Option Value} {base : Heap} {k : Nat} {f : Addr} {fd : FuncData} {ps : List Str} {sp sp' : Sp} (F : FnOk P w K mg base CX0 k f fd ps sp)
    (h : ∀ vs H Q E, sp' vs H Q E → sp vs H (fun v H' => ∃ (a : Addr) (S : HO → Prop) (o : HO), Flat S ∧ S o ∧ H' a = some o ∧ Q v (upd H' a (some_ P w S a))) E) : FnOk P w K mg base CX0 k f fd ps sp' := by
  refine ⟨fun vs H Q E q => F.len _ _ _ _ (h vs H Q E q), fun A outer s H args us vs Q E hr e0 bt r hs => ?_⟩
  refine codeAny_mono (F.run A outer s H args us vs _ E hr e0 bt r (h vs H Q E hs)) fun res s' q => ?_
  match res, q with
  | .error e, q => exact q
  | .ok (.ret u), q =>
    obtain ⟨v, H', os, ba, un, hok, rv, a, S, o', fl, so', ha', q'⟩ := q
    have n1 : (∀ xs, o' ≠ .tup xs) ∧ (∀ z y, o' ≠ .frz z y) ∧ (∀ z, o' ≠ .tbl z) ∧ (∀ c, o' ≠ .own c) := by
      rcases fl o' so' with ⟨xs, rfl⟩ | ⟨xs, rfl⟩
      all_goals exact ⟨(fun _ z => by cases z), (fun _ _ z => by cases z), (fun _ z => by cases z), (fun _ z => by cases z)⟩
    exact ⟨v, _, os, ba, un_right un ha' n1.1 n1.2.1 n1.2.2.1, hok_swap hok ha' n1.2.2.2 n1.1 (some_ok fl so' (hok a _ ha')), rv, q'⟩
end HL

namespace HL
open PySem PySem.Spec PyProof.Rows L2
/-! ### a global def by its name and promise -/
def Has (P : Program) (w : World) (K : PySem.W.Frag) (mg : Str → Option Value) (base : Heap) (x : Str) (k : Nat) (ps : List Str) (sp : Sp) : Prop :=
  ∃ f fd, mg x = some (.ref f) ∧ PySem.W.keepIn K (.ref f) = true ∧ FnOk P w K mg base CX0 k f fd ps sp ∧ Binds K fd ps []
def HasG (P : Program) (w : World) (K : PySem.W.Frag) (mg : Str → Option Value) (base : Heap) (x : Str) (k : Nat) (ps : List Str) (sp : Sp) : Prop :=
  ∃ f fd, mg x = some (.ref f) ∧ PySem.W.keepIn K (.ref f) = true ∧ FnG P w K mg base CX0 k f fd ps sp ∧ Binds K fd ps []
section
variable {P : Program} {w : World} {K : PySem.W.Frag} {mg : Str → Option Value} {base : Heap} {x : Str} {k : Nat} {ps : List Str} {sp : Sp}
theorem Has.g (h : Has P w K mg base x k ps sp) : HasG P w K mg base x k ps sp := by
  obtain ⟨f, fd, h1, h2, h3, h4⟩ := h
  exact ⟨f, fd, h1, h2, FnG.of h3, h4⟩
theorem Has.imp {sp' : Sp} (h : Has P w K mg base x k ps sp) (i : ∀ vs H Q E, sp' vs H Q E → sp vs H Q E) : Has P w K mg base x k ps sp' := by
  obtain ⟨f, fd, h1, h2, h3, h4⟩ := h
  exact ⟨f, fd, h1, h2, h3.imp i, h4⟩
theorem Has.open (h : Has P w K mg base x k ps sp) : Has P w K mg base x k ps (spO P w ps.length sp) := by
  obtain ⟨f, fd, h1, h2, h3, h4⟩ := h
  exact ⟨f, fd, h1, h2, fn_open h3, h4⟩
theorem Has.close {sp' : Sp} (h : Has P w K mg base x k ps sp) (i : ∀ vs H Q E, sp' vs H Q E → sp vs H (fun v H' => ∃ (a : Addr) (S : HO → Prop) (o : HO), Flat S ∧ S o ∧ H' a = some o ∧ Q v (upd H' a (some_ P w S a))) E) :
    Has P w K mg base x k ps sp' := by
  obtain ⟨f, fd, h1, h2, h3, h4⟩ := h
  exact ⟨f, fd, h1, h2, fn_close h3 i, h4⟩
theorem has_of {f : Addr} {st : Stmt} {N : List Str} (g : mg x = some (.ref f)) (F : ∃ fd, FunD K x x (defArgs st) (defBody st) (defScope st) [] [] f fd) (S : FnScope N ps (defScope st))
    (hb : ∀ (kV doc pm : Value) (an : Option Addr) (cdv ct : Value) (us : List Value), us.length = ps.length → bindArgs (PySem.W.fnOf x x (defArgs st) (defBody st) (defScope st) .none kV doc pm an cdv ct) ⟨us, []⟩ = pure (ps.zip us))
    (len : ∀ vs H Q E, sp vs H Q E → vs.length = ps.length)
    (body : ∀ (cdv : Value) (A : Around) (outer : List Env) (s : Shared) (H : Hp) (vs : List V) (Q : VK) (E : XK), Room k (A.deeper (envOfC x (defScope st) s.heap.objs.size f cdv)) → sp vs H Q E →
      ∃ t, PSs (cxOf CX0 P w K mg base N x (defScope st) f cdv A outer s H E).nox (defBody st) t ∧ t { nx := fun _ H' => Q .non H', rt := Q } (start N vs) H) :
    Has P w K mg base x (k + 1) ps sp := by
  obtain ⟨fd, F⟩ := F
  refine ⟨f, fd, g, F.kp, F.ok S len fun cdv A outer s H vs Q E hr h => ?_, F.bindsN hb⟩
  obtain ⟨t, h1, h2⟩ := body cdv A outer s H vs Q E hr h
  exact ⟨t, h1.nox, h2⟩
theorem hasg_of {f : Addr} {st : Stmt} {N : List Str} (g : mg x = some (.ref f)) (F : ∃ fd, FunD K x x (defArgs st) (defBody st) (defScope st) [] [] f fd) (S : FnScope N ps (defScope st))
    (hb : ∀ (kV doc pm : Value) (an : Option Addr) (cdv ct : Value) (us : List Value), us.length = ps.length → bindArgs (PySem.W.fnOf x x (defArgs st) (defBody st) (defScope st) .none kV doc pm an cdv ct) ⟨us, []⟩ = pure (ps.zip us))
    (len : ∀ vs H Q E, sp vs H Q E → vs.length = ps.length)
    (body : ∀ (cdv : Value) (A : Around) (outer : List Env) (s : Shared) (H : Hp) (vs : List V) (Q : VK) (E : XK), A.guards = some [] → Room k (A.deeper (envOfC x (defScope st) s.heap.objs.size f cdv)) → sp vs H Q E →
      ∃ t, PSs (cxOf CX0 P w K mg base N x (defScope st) f cdv A outer s H E).nox (defBody st) t ∧ t { nx := fun _ H' => Q .non H', rt := Q } (start N vs) H) :
    HasG P w K mg base x (k + 1) ps sp := by
  obtain ⟨fd, F⟩ := F
  exact ⟨f, fd, g, F.kp, okG F S len body, F.bindsN hb⟩
end
section
variable {X : Cx} {k j : Nat} {ps : List Str} {sp : Sp} {x : Str} {p pos : Pos} {e : Expr} {es : List Expr} {t : TA}
theorem pe_has (h : Has X.prog X.w X.K X.mg X.base x k ps sp) (hr : Room k X.A) (hg : Gl X x) (ha : PA X (e :: es) t) (hdb : (x == ("__debug__" : Str)) = false := by decide)
    (he : starEach (e :: es) X.env = (false, eval e X.env) :: starEach es X.env := by rfl) (hpl : (backTo pos (starEach es X.env)).any (·.1) = false := by rfl) :
    PE X (.Call (.Name x p) (e :: es) [] pos) (tCall sp [] E0 t) := by
  obtain ⟨f, fd, h1, h2, h3, h4⟩ := h
  exact pe_call h3 hr hg h1 h2 h4 .nil pass0 ha hdb he hpl
theorem pe_has0 (h : Has X.prog X.w X.K X.mg X.base x k ps sp) (hr : Room k X.A) (hg : Gl X x) (hdb : (x == ("__debug__" : Str)) = false := by decide) : PE X (.Call (.Name x p) [] [] pos) (tCall sp [] E0 tNil) := by
  obtain ⟨f, fd, h1, h2, h3, h4⟩ := h
  exact pe_call0 h3 hr hg h1 h2 h4 .nil pass0 hdb
theorem pe_hasg (gd : X.A.guards = some []) (h : HasG X.prog X.w X.K X.mg X.base x k ps sp) (hr : Room k X.A) (hg : Gl X x) (ha : PA X (e :: es) t) (hdb : (x == ("__debug__" : Str)) = false := by decide)
    (he : starEach (e :: es) X.env = (false, eval e X.env) :: starEach es X.env := by rfl) (hpl : (backTo pos (starEach es X.env)).any (·.1) = false := by rfl) :
    PE X (.Call (.Name x p) (e :: es) [] pos) (tCall sp [] E0 t) := by
  obtain ⟨f, fd, h1, h2, h3, h4⟩ := h
  exact pe_callg h3 gd hr hg h1 h2 h4 .nil pass0 ha hdb he hpl
/-- a module's int or text -/
theorem pe_gk {v : V} (hg : Gl X x) (h : ∃ u, X.mg x = some u ∧ RelV v u) (hd : (x == ("__debug__" : Str)) = false := by decide) : PE X (.Name x pos) (tC v) := by
  obtain ⟨u, h1, h2⟩ := h
  exact pe_glob hg h1 h2 hd
end
theorem boot_repr : bootBuiltins "repr" = some (.builtin "repr") := by decide +kernel
theorem boot_all : bootBuiltins "all" = some (.builtin "all") := by decide +kernel
theorem boot_any : bootBuiltins "any" = some (.builtin "any") := by decide +kernel
theorem boot_isinstance : bootBuiltins "isinstance" = some (.builtin "isinstance") := by decide +kernel
theorem boot_abs : bootBuiltins "abs" = some (.builtin "abs") := by decide +kernel
theorem boot_min : bootBuiltins "min" = some (.builtin "min") := by decide +kernel
theorem boot_max : bootBuiltins "max" = some (.builtin "max") := by decide +kernel
theorem boot_sorted : bootBuiltins "sorted" = some (.builtin "sorted") := by decide +kernel
theorem boot_len : bootBuiltins "len" = some (.builtin "len") := by decide +kernel
theorem boot_int : bootBuiltins "int" = some (.type "int") := by decide +kernel
theorem boot_list : bootBuiltins "list" = some (.type "list") := by decide +kernel
theorem boot_tuple : bootBuiltins "tuple" = some (.type "tuple") := by decide +kernel
theorem boot_dict : bootBuiltins "dict" = some (.type "dict") := by decide +kernel
theorem boot_str : bootBuiltins "str" = some (.type "str") := by decide +kernel
theorem boot_bool : bootBuiltins "bool" = some (.type "bool") := by decide +kernel
theorem boot_set : bootBuiltins "set" = some (.type "set") := by decide +kernel
/-! ### all that was known is known -/
theorem same_upd {H H' : Hp} {p : Addr} {o : HO} (e : Same H H') (h : H p = none) : Same H (upd H' p o) := fun b u q => by
  rw [upd_ne (ne_of_none q h)]
  exact e b u q
theorem same_new {H : Hp} {p : Addr} {o : HO} (h : H p = none) : Same H (upd H p o) := same_upd (Same.refl H) h
end HL

namespace HL
open PySem PySem.Spec PyProof.Rows L2
/-! ### a list against the empty list -/
def rNil (K : PySem.W.Frag) (neg : Bool) : R2 := fun x y H Q => ∃ p q xs, x = .ref p ∧ y = .ref q ∧ SqL K H p xs ∧ SqL K H q [] ∧ Q (.bl (if neg then !xs.isEmpty else xs.isEmpty)) H
section
variable {X : Cx}
theorem op_eqNil (hu : X.A.units + 64 < cLine) : OpR X (compareOp .Eq) (rNil X.K false) := by
  intro pins s σ H x y v u Q I rx ry h
  obtain ⟨p, q, xs, rfl, rfl, h1, h2, k⟩ := h
  cases rx
  cases ry
  obtain ⟨a, ra, ⟨oa, na, ea, ca, _, da⟩, _⟩ := I.list h1
  obtain ⟨b, rb, ⟨ob, nb, eb, cb, _, db⟩, _⟩ := I.list h2
  cases rb
  have la : s.heap.IsList p a.toArray := ⟨oa, ea, ca, na, da⟩
  have lb : s.heap.IsList q (#[] : Array Value) := ⟨ob, eb, cb, nb, db⟩
  cases ra with
  | nil => exact SeqAt.eq_listAt (e := fun _ => true) la lb rfl (by omega) (fun j h1 h2 => absurd h1 (by simp)) ⟨.bl true, H, I, rfl, k⟩
  | cons r0 rn => exact SeqAt.eq_list_lengthsAt la lb (by simp) (by omega) ⟨.bl false, H, I, rfl, k⟩
theorem op_neNil (hu : X.A.units + 64 < cLine) : OpR X (compareOp .NotEq) (rNil X.K true) := by
  intro pins s σ H x y v u Q I rx ry h
  obtain ⟨p, q, xs, rfl, rfl, h1, h2, k⟩ := h
  cases rx
  cases ry
  obtain ⟨a, ra, ⟨oa, na, ea, ca, _, da⟩, _⟩ := I.list h1
  obtain ⟨b, rb, ⟨ob, nb, eb, cb, _, db⟩, _⟩ := I.list h2
  cases rb
  have la : s.heap.IsList p a.toArray := ⟨oa, ea, ca, na, da⟩
  have lb : s.heap.IsList q (#[] : Array Value) := ⟨ob, eb, cb, nb, db⟩
  cases ra with
  | nil => exact SeqAt.RcNeAt.lists (e := fun _ => true) la lb rfl (by omega) (fun j h1 h2 => absurd h1 (by simp)) _ _ _ _ ⟨.bl false, H, I, rfl, k⟩
  | cons r0 rn => exact SeqAt.RcNeAt.lists_lengths la lb (by simp) (by omega) _ _ _ _ ⟨.bl true, H, I, rfl, k⟩
end
theorem sIx_nat {i n : Nat} (h : i < n) : seqIndex? (i : Int) n = some i := by
  unfold seqIndex?
  simp only [show ¬ ((i : Int) < 0) by omega, if_false]
  rw [if_pos (by simp; omega)]
  simp
theorem yes_ {σ : L2.St} {H : Hp} {A B : Hp → Prop} (h : A H) : tYes σ H (fun b H3 => if b = true then A H3 else B H3) := by
  show if true = true then A H else B H
  rw [if_pos rfl]
  exact h
/-! ### data stays data -/
theorem same_t {K : PySem.W.Frag} {H H' : Hp} {a : Addr} {xs : List V} (e : Same H H') (h : SqT K H a xs) : SqT K H' a xs := by
  rcases h with (h | ⟨o, h⟩) | h
  · exact .inl (.inl (e _ _ h))
  · exact .inl (.inr ⟨o, e _ _ h⟩)
  · exact .inr h
/-- all but what is left open stays -/
def Kp (H H' : Hp) : Prop := ∀ b o, (∀ φ, o ≠ HO.ext φ) → H b = some o → H' b = some o
theorem Kp.of {H H' : Hp} (e : Same H H') : Kp H H' := fun b o _ h => e b o h
theorem Kp.refl (H : Hp) : Kp H H := fun _ _ _ h => h
theorem Kp.trans {H H1 H2 : Hp} (a : Kp H H1) (b : Kp H1 H2) : Kp H H2 := fun c o n e => b c o n (a c o n e)
theorem Kp.lst {H H' : Hp} {a : Addr} {xs : List V} (e : Kp H H') (h : H a = some (.lst xs)) : H' a = some (.lst xs) := e _ _ (fun _ z => by cases z) h
theorem Kp.tup {H H' : Hp} {a : Addr} {xs : List V} (e : Kp H H') (h : H a = some (.tup xs)) : H' a = some (.tup xs) := e _ _ (fun _ z => by cases z) h
theorem Kp.dK {H H' : Hp} {a : Addr} {xs : List (Key × V)} (e : Kp H H') (h : H a = some (.dK xs)) : H' a = some (.dK xs) := e _ _ (fun _ z => by cases z) h
theorem Kp.ins {H H' : Hp} {a C dx : Addr} {fs : List (Str × V)} (e : Kp H H') (h : H a = some (.ins C dx fs)) : H' a = some (.ins C dx fs) := e _ _ (fun _ z => by cases z) h
theorem Kp.frz {H H' : Hp} {a : Addr} {o : Obj} {u : HO} (e : Kp H H') (h : H a = some (.frz o u)) : H' a = some (.frz o u) := e _ _ (fun _ z => by cases z) h
theorem Kp.l {K : PySem.W.Frag} {H H' : Hp} {a : Addr} {xs : List V} (e : Kp H H') (h : SqL K H a xs) : SqL K H' a xs := by
  rcases h with (h | ⟨o, h⟩) | h
  · exact .inl (.inl (e.lst h))
  · exact .inl (.inr ⟨o, e.frz h⟩)
  · exact .inr h
theorem Kp.t {K : PySem.W.Frag} {H H' : Hp} {a : Addr} {xs : List V} (e : Kp H H') (h : SqT K H a xs) : SqT K H' a xs := by
  rcases h with (h | ⟨o, h⟩) | h
  · exact .inl (.inl (e.tup h))
  · exact .inl (.inr ⟨o, e.frz h⟩)
  · exact .inr h
mutual
theorem Kp.dp {K : PySem.W.Frag} {H H' : Hp} (e : Kp H H') : ∀ {v : V} {d : PyData}, Dp K H v d → Dp K H' v d
  | _, _, .non => .non
  | _, _, .bl b => .bl b
  | _, _, .int i => .int i
  | _, _, .str x => .str x
  | _, _, .lst h a => .lst (e.l h) (Kp.dpa e a)
  | _, _, .tup h a => .tup (e.t h) (Kp.dpa e a)
theorem Kp.dpa {K : PySem.W.Frag} {H H' : Hp} (e : Kp H H') : ∀ {vs : List V} {ds : List PyData}, DpAll K H vs ds → DpAll K H' vs ds
  | _, _, .nil => .nil
  | _, _, .cons h t => .cons (Kp.dp e h) (Kp.dpa e t)
end
theorem dpa_strs {K : PySem.W.Frag} {H : Hp} : ∀ l : List Str, DpAll K H (l.map V.str) (l.map PyData.str)
  | [] => .nil
  | x :: r => .cons (.str x) (dpa_strs r)
theorem dpa_ints {K : PySem.W.Frag} {H : Hp} : ∀ l : List Int, DpAll K H (l.map V.int) (l.map PyData.int)
  | [] => .nil
  | x :: r => .cons (.int x) (dpa_ints r)
end HL

namespace HL
open PySem PySem.Spec PyProof.Rows L2
/-! ### data of texts -/
theorem eqvAll_strs : ∀ xs ys : List Str, PyData.eqvAll (xs.map PyData.str) (ys.map PyData.str) = decide (xs = ys)
  | [], [] => rfl
  | [], _ :: _ => rfl
  | _ :: _, [] => rfl
  | x :: xs, y :: ys => by
    rw [List.map_cons, List.map_cons, PyData.eqvAll, PyData.eqv, eqvAll_strs xs ys]
    by_cases h : x = y
    · subst h
      simp
    · simp [h]
theorem depthAll_strs : ∀ xs : List Str, PyData.depthAll (xs.map PyData.str) = 0
  | [] => rfl
  | x :: xs => by
    rw [List.map_cons, PyData.depthAll, depthAll_strs xs]
    rfl
theorem canLay_strs : ∀ xs : List Str, (∀ z ∈ xs, PyData.strOk z = true) → PyData.canLayAll0 (xs.map PyData.str) = true
  | [], _ => rfl
  | x :: xs, h => by
    rw [List.map_cons, PyData.canLayAll0, canLay_strs xs fun z hz => h z (List.mem_cons_of_mem _ hz)]
    show (PyData.strOk x && true) = true
    rw [h x List.mem_cons_self]
    rfl
theorem shaped_tupS {xs : List Str} (h : ∀ z ∈ xs, PyData.strOk z = true) : SeqAt.shaped (.tuple (xs.map PyData.str)) = true := by
  unfold SeqAt.shaped
  rw [PyData.canLay0, canLay_strs xs h, PyData.depth, depthAll_strs]
  rfl
theorem shaped_lstS {xs : List Str} (h : ∀ z ∈ xs, PyData.strOk z = true) : SeqAt.shaped (.list (xs.map PyData.str)) = true := by
  unfold SeqAt.shaped
  rw [PyData.canLay0, canLay_strs xs h, PyData.depth, depthAll_strs]
  rfl
/-! ### how long a shown text is -/
theorem textFrom_le : ∀ (ts : List Str) (k : Nat) (acc : Str), (textFrom k acc ts).length ≤ acc.length + piled ts
  | [], k, acc => Nat.le_add_right _ _
  | t :: r, k, acc => by
    have q := textFrom_le r (k + 1) (acc ++ (if k > 0 then ", " else "" : String) ++ t)
    have e : (acc ++ (if k > 0 then ", " else "" : String) ++ t).length ≤ acc.length + 2 + t.length := by
      rw [strLen_append, strLen_append]
      split
      · exact Nat.le_refl _
      · show acc.length + 0 + t.length ≤ _
        omega
    have p : piled (t :: r) = t.length + 2 + piled r := by simp [piled]
    show (textFrom (k + 1) (acc ++ (if k > 0 then ", " else "" : String) ++ t) r).length ≤ _
    omega
theorem listText_le (ts : List Str) : (listText ts).length ≤ piled ts + 2 := by
  have q := textFrom_le ts 0 "["
  unfold listText
  rw [strLen_append]
  have e1 : ((("[" : String) : Str)).length = 1 := rfl
  have e2 : ((("]" : String) : Str)).length = 1 := rfl
  omega
theorem tupleText_le (ts : List Str) : (tupleText ts).length ≤ piled ts + 3 := by
  unfold tupleText
  rw [strLen_append, strLen_append]
  have e1 : ((("(" : String) : Str)).length = 1 := rfl
  have e3 : ((if ts.length == 1 then ",)" else ")" : String) : Str).length ≤ 2 := by
    split
    · exact Nat.le_refl _
    · exact Nat.le_succ _
  have e2 : (Str.join ", " ts).length ≤ piled ts := by
    by_cases h : ts = []
    · subst h
      exact Nat.zero_le _
    · have := join_length_add ts h
      omega
  omega
theorem piled_le {n : Nat} : ∀ ts : List Str, (∀ t ∈ ts, t.length ≤ n) → piled ts ≤ ts.length * (n + 2)
  | [], _ => by simp [piled]
  | t :: r, h => by
    have q := piled_le r fun x hx => h x (List.mem_cons_of_mem _ hx)
    have := h t List.mem_cons_self
    have p : piled (t :: r) = t.length + 2 + piled r := by simp [piled]
    rw [p, List.length_cons, Nat.add_mul]
    omega
theorem shownAll_map : ∀ ds : List PyData, PyData.shownAll ds = ds.map PyData.shown
  | [] => rfl
  | d :: ds => by
    rw [PyData.shownAll, shownAll_map ds]
    rfl
theorem showableAll_all : ∀ ds : List PyData, (∀ d ∈ ds, d.showable = true) → PyData.showableAll ds = true
  | [], _ => rfl
  | d :: ds, h => by
    rw [PyData.showableAll, h d List.mem_cons_self, showableAll_all ds fun x hx => h x (List.mem_cons_of_mem _ hx)]
    rfl
end HL

namespace HL
open PySem PySem.Spec PyProof.Rows L2
/-! ### a sorted row is one -/
theorem perm_one {α : Type} {R : α → α → Prop} (anti : ∀ a b, R a b → R b a → a = b) : ∀ (l m : List α), l.Pairwise R → m.Pairwise R → l.Perm m → l = m
  | [], m, _, _, p => by
    have := p.length_eq
    cases m with
    | nil => rfl
    | cons _ _ => simp at this
  | x :: l, [], _, _, p => by
    have := p.length_eq
    simp at this
  | x :: l, y :: m, h1, h2, p => by
    obtain ⟨a1, a2⟩ := List.pairwise_cons.mp h1
    obtain ⟨b1, b2⟩ := List.pairwise_cons.mp h2
    have e : x = y := by
      have hx : x ∈ y :: m := p.mem_iff.mp List.mem_cons_self
      have hy : y ∈ x :: l := p.mem_iff.mpr List.mem_cons_self
      rcases List.mem_cons.mp hx with e | hx
      · exact e
      · rcases List.mem_cons.mp hy with e | hy
        · exact e.symm
        · exact anti _ _ (a1 y hy) (b1 x hx)
    subst e
    rw [perm_one anti l m a2 b2 (List.Perm.cons_inv p)]
def leS (a b : Str) : Prop := ltCps b.cps.toList a.cps.toList = false
theorem leS_iff {a b : Str} : leS a b ↔ a.cps.toList ≤ b.cps.toList := by
  unfold leS
  rw [ltCps_eq, decide_eq_false_iff_not]
  exact Iff.rfl
theorem leS_trans {a b c : Str} (h1 : leS a b) (h2 : leS b c) : leS a c := leS_iff.mpr (List.le_trans (leS_iff.mp h1) (leS_iff.mp h2))
theorem leS_anti {a b : Str} (h1 : leS a b) (h2 : leS b a) : a = b := by
  have e := List.le_antisymm (leS_iff.mp h1) (leS_iff.mp h2)
  obtain ⟨⟨x⟩⟩ := a
  obtain ⟨⟨y⟩⟩ := b
  cases e
  rfl
theorem rising_pw : ∀ (p : Str) (r : List Str), risingS p r = true → (p :: r).Pairwise leS
  | p, [], _ => by simp
  | p, x :: r, h => by
    unfold risingS at h
    rw [Bool.and_eq_true, Bool.not_eq_true'] at h
    have q := rising_pw x r h.2
    refine List.pairwise_cons.mpr ⟨fun y hy => ?_, q⟩
    rcases List.mem_cons.mp hy with rfl | hy
    · exact h.1
    · exact leS_trans h.1 ((List.pairwise_cons.mp q).1 y hy)
theorem sortedS_pw {l : List Str} (h : sortedS l = true) : l.Pairwise leS := by
  cases l with
  | nil => exact .nil
  | cons x r => exact rising_pw x r h
theorem sortedS_one {l m : List Str} (h1 : sortedS l = true) (h2 : sortedS m = true) (p : l.Perm m) : l = m := perm_one (fun _ _ => leS_anti) l m (sortedS_pw h1) (sortedS_pw h2) p
end HL

namespace HL
open PySem PySem.Spec PyProof.Rows L2
theorem ty_l {K : PySem.W.Frag} {H : Hp} {a : Addr} {xs : List V} (h : SqL K H a xs) : TyX K H (.ref a) (.type "list") := by
  rcases h with (h | ⟨o, h⟩) | ⟨o, its, n, h1, h2, _⟩
  · exact .base (.lst h)
  · exact .base (.frz h)
  · exact .kList h1 h2
theorem ty_t {K : PySem.W.Frag} {H : Hp} {a : Addr} {xs : List V} (h : SqT K H a xs) : TyX K H (.ref a) (.type "tuple") := by
  rcases h with (h | ⟨o, h⟩) | ⟨o, its, n, h1, h2, _⟩
  · exact .base (.tup h)
  · exact .fTuple h
  · exact .kTuple h1 h2
section
variable {K : PySem.W.Frag} {a : Addr} {xs : List V} {g : TG} {tt : TT} {te : TE} {vs : List Nat} {σ : L2.St} {H1 : Hp} {D : Addr} {Qd : Hp → Prop}
theorem take_succ' {α : Type} {xs : List α} {i : Nat} {x : α} (h : xs[i]? = some x) : xs.take (i + 1) = xs.take i ++ [x] := by
  rw [List.take_add_one, h]
  rfl
theorem acc_step {p : V → Bool} {f : V → V} {i : Nat} {x : V} (h : xs[i]? = some x) : ((xs.take (i + 1)).filter p).map f = if p x = true then ((xs.take i).filter p).map f ++ [f x] else ((xs.take i).filter p).map f := by
  rw [take_succ' h, List.filter_append, List.map_append]
  by_cases e : p x = true
  · simp [e]
  · simp [e]
theorem acc_len {p : V → Bool} {f : V → V} {i : Nat} {x : V} (h : xs[i]? = some x) : (((xs.take i).filter p).map f).length < xs.length := by
  have h1 : i < xs.length := (List.getElem?_eq_some_iff.mp h).1
  have h2 := List.length_filter_le p (xs.take i)
  rw [List.length_take] at h2
  rw [List.length_map]
  omega
/-- [f(x) for x in xs if p(x)] of a list, all of it leaving the heap as it is -/
theorem lcl_pure (p : V → Bool) (f : V → V) (hD : H1 D = none) (hl : SqL K H1 a xs) (hz : xs.length ≤ sizeLine)
    (hs : ∀ (i : Nat) (x : V) (H' : Hp) (Q' : VK) (R : Hp → Prop), xs[i]? = some x → Same H1 H' → (p x = true → Q' (f x) H') → (p x = false → R H') → g x (wipe σ vs) H' fun σ2 H2 => wipe σ2 vs = wipe σ vs ∧ tt σ2 H2 fun b H3 => if b = true then te σ2 H3 Q' else R H3)
    (hd : Qd (upd H1 D (.lst ((xs.filter p).map f)))) :
    ∃ W : Nat → Nat → Hp → Prop, (∃ m, W 0 m (upd H1 D (.lst []))) ∧ ∀ i m H, W i m H →
      ((Itl K a).stop i H ∧ Qd H) ∨ ((Itl K a).go i H ∧ ∃ Nx : Hp → Prop, (∀ H', Nx H' → ∃ m', m' < m ∧ W (i + 1) m' H') ∧ ∀ x H', (Itl K a).yld i H x H' → g x (wipe σ vs) H' fun σ2 H2 => wipe σ2 vs = wipe σ vs ∧ tt σ2 H2 fun b H3 =>
        if b = true then te σ2 H3 fun y H4 => ∃ acc, H4 D = some (.lst acc) ∧ acc.length < sizeLine ∧ Nx (upd H4 D (.lst (acc ++ [y]))) else Nx H3) := by
  refine lc_list (K := K) (a := a) (xs := xs) (fun i H' => H' = upd H1 D (.lst (((xs.take i).filter p).map f))) rfl ?_ ?_ ?_
  · rintro i H' _ rfl
    exact (same_new hD).seq hl
  · rintro i x H' hx rfl
    refine hs i x _ _ _ hx (same_new hD) (fun e => ?_) (fun e => ?_)
    · refine ⟨_, upd_same, Nat.lt_of_lt_of_le (acc_len hx) hz, ?_⟩
      rw [upd_upd, acc_step hx, if_pos e]
    · rw [acc_step hx, if_neg (by rw [e]; intro z; cases z)]
  · rintro H' rfl
    rw [List.take_length]
    exact hd
theorem lct_pure (p : V → Bool) (f : V → V) (hD : H1 D = none) (hl : SqT K H1 a xs) (hz : xs.length ≤ sizeLine)
    (hs : ∀ (i : Nat) (x : V) (H' : Hp) (Q' : VK) (R : Hp → Prop), xs[i]? = some x → Same H1 H' → (p x = true → Q' (f x) H') → (p x = false → R H') → g x (wipe σ vs) H' fun σ2 H2 => wipe σ2 vs = wipe σ vs ∧ tt σ2 H2 fun b H3 => if b = true then te σ2 H3 Q' else R H3)
    (hd : Qd (upd H1 D (.lst ((xs.filter p).map f)))) :
    ∃ W : Nat → Nat → Hp → Prop, (∃ m, W 0 m (upd H1 D (.lst []))) ∧ ∀ i m H, W i m H →
      ((Itt K a).stop i H ∧ Qd H) ∨ ((Itt K a).go i H ∧ ∃ Nx : Hp → Prop, (∀ H', Nx H' → ∃ m', m' < m ∧ W (i + 1) m' H') ∧ ∀ x H', (Itt K a).yld i H x H' → g x (wipe σ vs) H' fun σ2 H2 => wipe σ2 vs = wipe σ vs ∧ tt σ2 H2 fun b H3 =>
        if b = true then te σ2 H3 fun y H4 => ∃ acc, H4 D = some (.lst acc) ∧ acc.length < sizeLine ∧ Nx (upd H4 D (.lst (acc ++ [y]))) else Nx H3) := by
  refine lc_tup (K := K) (a := a) (xs := xs) (fun i H' => H' = upd H1 D (.lst (((xs.take i).filter p).map f))) rfl ?_ ?_ ?_
  · rintro i H' _ rfl
    exact same_t (same_new hD) hl
  · rintro i x H' hx rfl
    refine hs i x _ _ _ hx (same_new hD) (fun e => ?_) (fun e => ?_)
    · refine ⟨_, upd_same, Nat.lt_of_lt_of_le (acc_len hx) hz, ?_⟩
      rw [upd_upd, acc_step hx, if_pos e]
    · rw [acc_step hx, if_neg (by rw [e]; intro z; cases z)]
  · rintro H' rfl
    rw [List.take_length]
    exact hd
theorem filter_yes {xs : List V} : xs.filter (fun _ => true) = xs := List.filter_eq_self.mpr fun _ _ => rfl
/-- a test that always holds -/
theorem yes2 {σ : L2.St} {H : Hp} {A B : Hp → Prop} (h : A H) : tYes σ H (fun b H3 => if b = true then A H3 else B H3) := yes_ h
end
end HL

namespace HL
open PySem PySem.Spec PyProof.Rows L2
section
variable {prog : Program} {w : World} {A : Around} {E : Value → Shared → Prop} {s : Shared} {K : PySem.W.Frag} {x C f : Addr} {ox : Obj} {od : Option Obj} {b tb : Value}
open PySem.W in
theorem ifBound_B {M : Model} {args : List Value} {name : Str} {id : String} {Q : Option Value → Shared → Prop} (X : K.In s.heap) (I : InstAt s.heap x ox C od) (hs : findIn K (.ref C) name = some (some (.builtin id)))
    (hb : ∀ self, bindSpecial (.builtin id) self = pure (.builtin id, [self])) (h : wpAny M A (call (.builtin id) (.ref x :: args)) (fun v => Q (some v)) E s) : wpAny M A (callSpecialIfBound? (.ref x) name args) Q E s := by
  have last : wpAny M A (do return some (← call (.builtin id) ([.ref x] ++ args))) Q E s := wpAny_bind (wpAny_mono h (fun v s' q => wpAny_pure q) fun _ _ q => q)
  unfold callSpecialIfBound? bindSpecialIfBound?
  refine wpAny_holding (wpAny_bind (wpAny_bind (wpAny_bind (I.type.here ((looks_findIn X hs).here (wpAny_bind (wpAny_askSetting (wpAny_ite ?_))))))))
  simp only [hb]
  split
  · exact wpAny_bind (wpAny_pure (wpAny_pure (by exact last)))
  · exact wpAny_tryCatch (wpAny_bind (wpAny_pure (wpAny_pure (by exact last))))
open PySem.W in
theorem objNe_K (X : K.In s.heap) (I : InstAt s.heap x ox C od) (hs : findIn K (.ref C) "__eq__" = some (some (.ref f))) (hf : isFn K (.ref f) = true) (hu : A.units < cLine) {Q : Fin → Shared → Prop}
    (h : wpAny (model prog w) A (call (.ref f) [.ref x, b]) (fun v s' => ∃ c, v = .bool c ∧ Q (.done (.ret (.bool (!c)))) s') E s) : wpAny (model prog w) A (Builtin.«object.__ne__» ⟨[.ref x, b], []⟩) Q E s := by
  unfold Builtin.«object.__ne__»
  refine wpAny_bind (wpAny_of_eq (a := ((Value.ref x : Value), [b])) (by first | rfl | (simp only [slotArgs]; rfl)) ?_)
  refine wpAny_bind (wpAny_cRoomFor hu (wpAny_bind (ifBound_K X I hs hf (wpAny_mono h (fun v s' q => ?_) fun _ _ q => q))))
  obtain ⟨c, rfl, q⟩ := q
  refine wpAny_bind (wpAny_truthy_bool ?_)
  first | exact wpAny_pure q | exact wpAny_pure (wpAny_pure q) | exact q
open PySem.W in
theorem rcNe_K (hu : A.units + 1 < cLine) (X : K.In s.heap) (I : InstAt s.heap x ox C od) (hb : Looks (model prog w) s.heap (typeOf b) tb) (hn : notFirst K C tb = true) (h1 : findIn K (.ref C) "__ne__" = some (some (.builtin "object.__ne__")))
    (hs : findIn K (.ref C) "__eq__" = some (some (.ref f))) (hf : isFn K (.ref f) = true) (ho : subIn K (.ref C) (.type "object") = some true) {Q : Value → Shared → Prop}
    (h : wpAny (model prog w) A.in1 (call (.ref f) [.ref x, b]) (fun v s' => ∃ c, v = .bool c ∧ Q (.bool (!c)) s') E s) : wpAny (model prog w) A (richCompare .NotEq (.ref x) b) Q E s := by
  have isO : Looks (model prog w) s.heap (isInstance (.ref x) (.type "object")) true := I.type.andThen (looks_subIn X ho)
  have one : wpAny (model prog w) A (tryCompare (.ref x) (cmpInfo .NotEq).2.1 b) (fun r s' => ∃ v, r = some v ∧ Q v s') E s := by
    unfold tryCompare
    refine wpAny_bind (ifBound_B X I h1 PySem.F.cmp_object.ne.bind (wpAny_call (codeAny_call_builtin PySem.F.cmp_object.ne.plain PySem.F.cmpEntry_ne ?_)))
    refine check_slot PySem.F.cmpKind_ne PySem.F.cmpSplit_ne isO (PySem.F.cmpArgs_ne _ _) ?_
    refine objNe_K (A := A.in1) X I hs hf hu (wpAny_mono h (fun v s' q => ?_) fun _ _ q => q)
    obtain ⟨c, rfl, q⟩ := q
    exact ⟨c, rfl, wpAny_pure ⟨_, rfl, q⟩⟩
  have fin : ∀ (r : Option Value) (s' : Shared), (∃ v, r = some v ∧ Q v s') → True := fun _ _ _ => trivial
  unfold richCompare
  simp only [oneThing_ref]
  refine wpAny_holding (wpAny_bind (wpAny_cRoomFor (Nat.lt_of_succ_lt hu) (wpAny_bind (I.type.here (wpAny_bind (hb.here ?_))))))
  split
  · rename_i q
    have e : subIn K tb (.ref C) = some false := by
      rcases Bool.or_eq_true_iff.mp hn with e | e
      · rw [beq_iff_eq.mp e] at q
        simp at q
      · exact beq_iff_eq.mp e
    refine wpAny_bind ((looks_subIn X e).here ?_)
    simp only [Bool.false_eq_true, if_false]
    refine wpAny_bind (wpAny_mono one (fun r s' z => ?_) fun _ _ e => e)
    obtain ⟨v, rfl, hq⟩ := z
    exact wpAny_pure hq
  · refine wpAny_bind (wpAny_pure ?_)
    simp only [Bool.false_eq_true, if_false]
    refine wpAny_bind (wpAny_mono one (fun r s' z => ?_) fun _ _ e => e)
    obtain ⟨v, rfl, hq⟩ := z
    exact wpAny_pure hq
end
/-- an instance of C against any value, by the text's own __eq__ -/
def rOwn (K : PySem.W.Frag) (C : Addr) (sp : Sp) (neg : Bool) : R2 := fun x y H Q => ∃ (a dx : Addr) (fs : List (Str × V)) (t : Value), x = .ref a ∧ H a = some (.ins C dx fs) ∧ TyX K H y t ∧ PySem.W.notFirst K C t = true ∧
  sp [.ref a, y] H (fun v H' => ∃ b : Bool, v = .bl b ∧ Q (.bl (if neg then !b else b)) H') E0
section
variable {X : Cx} {n : Nat} {C f : Addr} {fd : FuncData} {ps : List Str} {sp : Sp}
theorem op_eqO (F : FnOk X.prog X.w X.K X.mg X.base CX0 n f fd ps sp) (hs : PySem.W.findIn X.K (.ref C) "__eq__" = some (some (.ref f))) (hf : PySem.W.isFn X.K (.ref f) = true) (hb : Binds X.K fd ps []) (hr : Room n X.A) :
    OpR X (compareOp .Eq) (rOwn X.K C sp false) := by
  intro pins s σ H x y v u Q I rx ry h
  obtain ⟨a, dx, fs, t, rfl, ha, ty, hn, hsp⟩ := h
  cases rx
  obtain ⟨Pk, kit, pk, _⟩ := kit_of I ry ty
  obtain ⟨mA, J, _⟩ := ins_get I.hok ha
  obtain ⟨od, J, _⟩ := J.look
  obtain ⟨m, hF⟩ := I.fr
  unfold compareOp
  refine PySem.W.cmp_K (op := .Eq) (tb := t) hr.units0 hF I.ok.mod.kin J (kit.ty _ _ I.kIn pk) hn hs hf ?_
  have hl := F.len _ _ _ _ hsp
  refine wpAny_call (codeAny_mono (F.run X.A X.stack s H ⟨[.ref a, u], []⟩ [.ref a, u] [.ref a, y] _ E0 hr I.env0 (by simpa using hb s [.ref a, u] I.kIn (by simpa using hl)) (.cons rfl (.cons ry .nil)) hsp) fun r s' hq => ?_)
  match r, hq with
  | .ok (.ret w), hq =>
    obtain ⟨z, H', I', rz, b, rfl, q⟩ := I.after hq
    cases rz
    exact ⟨.bl b, H', I', rfl, q⟩
theorem op_neO (F : FnOk X.prog X.w X.K X.mg X.base CX0 n f fd ps sp) (h1 : PySem.W.findIn X.K (.ref C) "__ne__" = some (some (.builtin "object.__ne__"))) (ho : PySem.W.subIn X.K (.ref C) (.type "object") = some true)
    (hs : PySem.W.findIn X.K (.ref C) "__eq__" = some (some (.ref f))) (hf : PySem.W.isFn X.K (.ref f) = true) (hb : Binds X.K fd ps []) (hr : Room (n + 1) X.A) : OpR X (compareOp .NotEq) (rOwn X.K C sp true) := by
  intro pins s σ H x y v u Q I rx ry h
  obtain ⟨a, dx, fs, t, rfl, ha, ty, hn, hsp⟩ := h
  cases rx
  obtain ⟨Pk, kit, pk, _⟩ := kit_of I ry ty
  obtain ⟨mA, J, _⟩ := ins_get I.hok ha
  obtain ⟨od, J, _⟩ := J.look
  unfold compareOp
  refine rcNe_K (tb := t) (hu_of hr) I.kIn J (kit.ty _ _ I.kIn pk) hn h1 hs hf ho ?_
  have hl := F.len _ _ _ _ hsp
  refine wpAny_call (codeAny_mono (F.run X.A.in1 X.stack s H ⟨[.ref a, u], []⟩ [.ref a, u] [.ref a, y] _ E0 hr.in1 I.env0.in1 (by simpa using hb s [.ref a, u] I.kIn (by simpa using hl)) (.cons rfl (.cons ry .nil)) hsp) fun r s' hq => ?_)
  match r, hq with
  | .ok (.ret w), hq =>
    obtain ⟨z, H', I', rz, b, rfl, q⟩ := I.after hq
    cases rz
    exact ⟨b, rfl, .bl (!b), H', I', rfl, q⟩
end
end HL

namespace HL
open PySem PySem.Spec PyProof.Rows L2
/-! ### defs found by a path of one's own -/
structure DefA where
  at_ : PySem.W.Frag → Addr
  name : Str
  qual : Str
  params : Arguments
  body : List Stmt
  scope : Scope
  dfl : List He.Dv := []
  kwd : List (Str × He.Dv) := []
def fnA (K : PySem.W.Frag) (a : Addr) : He.FnW := match K.lookup a with
  | some ⟨_, _, .func fd, _⟩ => some (fd.name, fd.qualname, fd.params, fd.body, fd.scope, fd.globals, fd.closure, fd.builtins)
  | _ => none
def DefA.val (d : DefA) : He.FnW := some (d.name, d.qual, d.params, .stmts d.body, d.scope, mainGlobals, [], builtinsNs)
def DefA.dvs (K : PySem.W.Frag) (d : DefA) : List V := d.dfl.map (He.Dv.v K)
def DefA.kws (K : PySem.W.Frag) (d : DefA) : List (Str × V) := d.kwd.map fun q => (q.1, q.2.v K)
def DefA.ok (K : PySem.W.Frag) (d : DefA) : Bool := PySem.W.keepIn K (.ref (d.at_ K)) && (match K.lookup (d.at_ K) with
  | some ⟨_, _, .func fd, _⟩ => PySem.W.codeIn K fd.code d.qual && (He.dflB K fd.defaults (d.dvs K) && He.kwdB K fd.kwdefaults (d.kws K))
  | _ => false)
theorem DefA.funD {K : PySem.W.Frag} {d : DefA} (e : fnA K (d.at_ K) = d.val) (c : d.ok K = true) : ∃ fd, FunD K d.name d.qual d.params d.body d.scope (d.dvs K) (d.kws K) (d.at_ K) fd := by
  unfold DefA.ok at c
  obtain ⟨kp, c2⟩ := He.ba c
  unfold fnA at e
  generalize hl : K.lookup (d.at_ K) = o at c2 e
  match o, c2, e with
  | some ⟨oc, od, .func fd, osl⟩, c2, e =>
    obtain ⟨n1, n2, n3, n4, n5, n6, n7, n8, n9, n10, n11, n12, n13, n14, n15⟩ := fd
    have e2 : (some (n1, n2, n3, n4, n5, n6, n7, n15) : He.FnW) = d.val := e
    unfold DefA.val at e2
    simp only [Option.some.injEq, Prod.mk.injEq] at e2
    obtain ⟨h1, h2, h3, h4, h5, h6, h7, h8⟩ := e2
    subst h1 h2 h3 h4 h5 h6 h7 h8
    obtain ⟨k1, k2⟩ := He.ba (show (PySem.W.codeIn K n13 d.qual && (He.dflB K n8 (d.dvs K) && He.kwdB K n9 (d.kws K))) = true from c2)
    obtain ⟨k3, k4⟩ := He.ba k2
    exact ⟨_, ⟨oc, od, n8, n9, n10, n11, n12, n13, n14, osl, rfl, hl, k1, He.dflB_ok k3, He.kwdB_ok k4⟩, kp⟩
abbrev AlH : Type := He.AlX × List He.FnW
def exH (ex : PySem.W.Frag → Bool) (fn : List DefA) (K : PySem.W.Frag) : Bool := ex K && fn.all fun d => d.ok K
def obsH (n : Nat) (fa : List He.Fa) (ts : List He.Tab) (tf : List He.Defn) (ex : PySem.W.Frag → Bool) (fn : List DefA) (g : Addr → Option Obj) : AlH :=
  (He.obsX n fa [] ts tf (exH ex fn) g, fn.map fun d => fnA (He.frT g (He.asD g n)) (d.at_ (He.frT g (He.asD g n))))
def valH (ts : List He.Tab) (fn : List DefA) (w : World) : AlH := (He.valX [] ts w, fn.map DefA.val)
structure SaysH (fa : List He.Fa) (ts : List He.Tab) (tf : List He.Defn) (ex : PySem.W.Frag → Bool) (fn : List DefA) (w : World) (h : Heap) (K : PySem.W.Frag) : Prop where
  x : He.SaysX fa [] ts tf (exH ex fn) w h K
  f : fn.map (fun d => fnA K (d.at_ K)) = fn.map DefA.val
def hookH (n : Nat) (fa : List He.Fa) (ts : List He.Tab) (tf : List He.Defn) (ex : PySem.W.Frag → Bool) (fn : List DefA) : PySem.W.Hook where
  α := AlH
  obs := fun s => obsH n fa ts tf ex fn s.heap.get?
  val := fun w => valH ts fn w
  says := fun w h => ∃ K : PySem.W.Frag, K.In h ∧ SaysH fa ts tf ex fn w h K
  of := fun _ _ e => ⟨_, He.frT_in, He.saysX_of (congrArg (fun z : AlH => z.1) e), congrArg (fun z : AlH => z.2) e⟩
  keeps := fun _ _ _ ⟨K, hK, c⟩ k => ⟨K, PySem.W.Frag.In.keeps hK k, ⟨⟨c.x.t, c.x.more, c.x.hd, c.x.out, fun p hp => k _ _ (c.x.empty p hp)⟩, c.f⟩⟩
theorem obsH_eq {n : Nat} {fa : List He.Fa} {ts : List He.Tab} {tf : List He.Defn} {ex : PySem.W.Frag → Bool} {fn : List DefA} {g : Addr → Option Obj} {s : Shared} (h : ∀ a, g a = s.heap.get? a) : obsH n fa ts tf ex fn g = (hookH n fa ts tf ex fn).obs s := by
  rw [show g = s.heap.get? from funext h]
  rfl
section
variable {fa : List He.Fa} {ts : List He.Tab} {tf : List He.Defn} {ex : PySem.W.Frag → Bool} {fn : List DefA} {w : World} {h : Heap} {K : PySem.W.Frag}
theorem SaysH.more (c : SaysH fa ts tf ex fn w h K) : ex K = true := (He.ba c.x.more).1
theorem SaysH.def_ (c : SaysH fa ts tf ex fn w h K) (i : Nat) {d : DefA} (e : fn[i]? = some d) : ∃ fd, FunD K d.name d.qual d.params d.body d.scope (d.dvs K) (d.kws K) (d.at_ K) fd := by
  have q := congrArg (fun l => l[i]?) c.f
  simp only [List.getElem?_map, e, Option.map_some, Option.some.injEq] at q
  exact DefA.funD q (List.all_eq_true.mp (He.ba c.x.more).2 d (List.mem_of_getElem? e))
end
/-! ### paths -/
def gAt (x : Str) (K : PySem.W.Frag) : Addr := He.ga K x
def mAt (c m : Str) (K : PySem.W.Frag) : Addr := He.ma K (He.ga K c) m
/-- a property's getter -/
def pAt (c m : Str) (K : PySem.W.Frag) : Addr := match PySem.W.recIn K (mAt c m K) "property" with
  | some (.ref g :: _) => g
  | _ => 0
/-- the default of a keyword-only parameter, if it is an object -/
def kwAt (f : PySem.W.Frag → Addr) (x : Str) (K : PySem.W.Frag) : Addr := match K.lookup (f K) with
  | some ⟨_, _, .func fd, _⟩ => (match fd.kwdefaults with
    | .ref d => (match PySem.W.nsIn K d x with
      | some (some (.ref a)) => a
      | _ => 0)
    | _ => 0)
  | _ => 0
/-- a positional default, if it is an object -/
def dfAt (f : PySem.W.Frag → Addr) (i : Nat) (K : PySem.W.Frag) : Addr := match K.lookup (f K) with
  | some ⟨_, _, .func fd, _⟩ => (match fd.defaults with
    | .ref t => (match K.lookup t with
      | some ⟨_, _, .seq its _, _⟩ => (match its.toList[i]? with
        | some (.ref a) => a
        | _ => 0)
      | _ => 0)
    | _ => 0)
  | _ => 0
/-- a tuple of values at a path -/
def tupAB (K : PySem.W.Frag) (a : Addr) (vs : List He.Dv) : Bool := match K.lookup a with
  | some ⟨.type c, _, .seq its _, _⟩ => decide (c = "tuple") && (decide (its.size ≤ sizeLine) && He.relAll (vs.map (He.Dv.v K)) its.toList)
  | _ => false
theorem tupAB_ok {K : PySem.W.Frag} {a : Addr} {vs : List He.Dv} (h : tupAB K a vs = true) (H : Hp) : SqT K H a (vs.map (He.Dv.v K)) := by
  unfold tupAB at h
  split at h
  · rename_i c od its n sl hl
    obtain ⟨h1, h2⟩ := He.ba h
    obtain ⟨h3, h4⟩ := He.ba h2
    exact .inr ⟨_, its, n, hl, congrArg Value.type (of_decide_eq_true h1), rfl, of_decide_eq_true h3, He.relAll_ok h4⟩
  · cases h
/-- a property -/
def propB (K : PySem.W.Frag) (c m : Str) : Bool := He.eqO (PySem.W.findIn K (.ref (He.ga K c)) m) (some (some (.ref (mAt c m K)))) && (He.eqO (PySem.W.specialIn K (.ref (mAt c m K)) "__get__") (some (some (.builtin "property.__get__"))) &&
  (decide (PySem.W.takesIn K (.ref (mAt c m K)) = some true) && (match PySem.W.recIn K (mAt c m K) "property" with
    | some (.ref _ :: _) => true
    | _ => false)))
theorem propB_ok {K : PySem.W.Frag} {c m : Str} (h : propB K c m = true) : PropOf K (He.ga K c) m (mAt c m K) (pAt c m K) := by
  obtain ⟨h1, h⟩ := He.ba h
  obtain ⟨h2, h⟩ := He.ba h
  obtain ⟨h3, h4⟩ := He.ba h
  refine ⟨He.eqO_ok h1, He.eqO_ok h2, of_decide_eq_true h3, ?_⟩
  unfold pAt
  split at h4
  · rename_i g rest e
    rw [e]
    exact ⟨rest, rfl⟩
  · cases h4
/-- own == without own != -/
def eqB (K : PySem.W.Frag) (c : Str) : Bool := He.eqO (PySem.W.findIn K (.ref (He.ga K c)) "__ne__") (some (some (.builtin "object.__ne__"))) && (decide (PySem.W.subIn K (.ref (He.ga K c)) (.type "object") = some true) &&
  (He.eqO (PySem.W.findIn K (.ref (He.ga K c)) "__eq__") (some (some (.ref (mAt c "__eq__" K)))) && PySem.W.isFn K (.ref (mAt c "__eq__" K))))
/-- no built-in class lies below an own one -/
def nfB (K : PySem.W.Frag) (c : Str) (ts : List String) : Bool := ts.all fun t => PySem.W.notFirst K (He.ga K c) (.type t)
end HL

namespace HL
open PySem PySem.Spec PyProof.Rows L2
/-- sorted(xs) of a list or tuple of texts -/
def rSortedQ (K : PySem.W.Frag) : List V → Hp → VK → Prop := fun vs H Q => ∃ (a : Addr) (xs : List Str), vs = [V.ref a] ∧ (SqL K H a (xs.map V.str) ∨ SqT K H a (xs.map V.str)) ∧ xs.length < 64 ∧
  ∀ (ys : List Str) (p : Addr), ys.Perm xs → sortedS ys = true → H p = none → Q (.ref p) (upd H p (.lst (ys.map V.str)))
theorem cr_sortedQ {X : Cx} : CallR X (.builtin "sorted") (rSortedQ X.K) := by
  intro pins s σ H vs us Q I r h
  obtain ⟨a, xs, rfl, hq, h64, q⟩ := h
  have fin : ∀ (its : List Value) (T : String) (o : Obj) (n : Nat), (T = "list" ∨ T = "tuple") → s.heap.get? a = some o → o.cls = .type T → o.data = .seq its.toArray n → Vals (xs.map V.str) its →
      wpAny (model X.prog X.w) X.A (call (.builtin "sorted") us) (EP X pins σ Q) X.xe s := fun its T o n hT ho hc hd rv => by
    rw [Vals.ref1 r]
    have hlen0 := rv.length
    rw [List.length_map] at hlen0
    refine Calls.call_function_entry PyProof.Rows.kind_sorted PyProof.Rows.plain_sorted PyProof.Rows.entry_sorted (PyProof.Rows.args_sorted1 _) ?_
    unfold Builtin.«sorted»
    refine wpAny_bind (m := checkCount "sorted" 1 1 _) (wpAny_pure ?_)
    refine wpAny_bind (wpAny_collect_seq a hT ho hc hd (fun h' kp => ?_) ?_)
    · have I1 : Inv X pins σ H { s with heap := h' } := I.kept (t' := s.toks) kp
      refine wpAny_bind (wpAny_newList ?_ (by rw [← hlen0, sizeLine_eq]; omega))
      have hoL : (h'.push (seqObj "list" its.toArray 0)).get? h'.objs.size = some (seqObj "list" its.toArray 0) := Heap.get?_push_size _ rfl
      show wpAny _ _ _ _ _ { s with heap := h'.push (seqObj "list" its.toArray 0) }
      have hS : StrsAre its xs := rv.strs
      refine wpAny_bind (wpAny_holding (wpAny_call_entry PyProof.Rows.slot_list_sort ⟨_, hoL, rfl⟩ PyProof.Rows.entry_list_sort
        (list_sort_treeK strKind_oneLt (s := { s with heap := h'.push (seqObj "list" its.toArray 0) }) hoL hS.keysOf (fun v₁ v₂ rest e => keyKind_strs (by rw [← e]; exact hS)) (by rw [← hlen0]; exact h64) fun st' hp hs => ⟨_, rfl, ?_⟩)
        (PyProof.Rows.args_list_sort _)))
      obtain ⟨ys, g1, g2, g3⟩ := sorted_out_str hS hp hs
      obtain ⟨e', he'⟩ := PyProof.Rows.sortedHeap_at (vs := its) (out := (arrOf st').map (·.2)) hoL
      have hlen : (ys.map V.str).length ≤ sizeLine := by
        rw [List.length_map, g2.length_eq]
        exact Nat.le_trans (Nat.le_of_lt h64) (by decide)
      refine wpAny_pure ⟨_, rfl, .ref h'.objs.size, upd H h'.objs.size (.lst (ys.map V.str)), I1.laid (t' := s.toks) (fun b u e => ?_) (Nat.le_refl _)
        (show ObjOk X.prog X.w _ _ _ (.lst (ys.map V.str)) from ⟨hlen, ((arrOf st').map (·.2)).toList, e', vals_of_strs g1, by rw [Array.toArray_toList]; exact he'⟩), rfl, q ys _ g2 g3 (I1.hok.fresh (Nat.le_refl _))⟩
      have hb : b < h'.objs.size := Heap.lt_size e
      rw [PyProof.Rows.sortedHeap_old (Nat.ne_of_lt hb) (by rw [size_push']; exact Nat.lt_succ_of_lt hb)]
      exact Heap.get?_push_of_some _ e
    · rw [List.size_toArray, ← hlen0, sizeLine_eq]
      omega
  rcases hq with hq | hq
  · obtain ⟨its, rv, pl, hz⟩ := I.list hq
    obtain ⟨o, ho, hc, n, hd⟩ := pl.isList
    exact fin its _ o n (.inl rfl) ho hc hd rv
  · obtain ⟨its, rv, pl, hz⟩ := I.tuple hq
    obtain ⟨o, ho, hc, n, hd⟩ := pl
    exact fin its _ o n (.inr rfl) ho hc hd rv
end HL

namespace HL
open PySem PySem.Spec PyProof.Rows L2
/-! ### a class whose instances meet isinstance and == -/
def insB (K : PySem.W.Frag) (c : Str) (ts : List String) : Bool := (He.eqO (PySem.W.findIn K (.ref (He.ga K c)) "__class__") (some (some (.builtin "object.__class__"))) &&
  (He.eqO (PySem.W.specialIn K (.builtin "object.__class__") "__get__") (some (some (.builtin "getset_descriptor.__get__"))) && (decide (PySem.W.takesIn K (.builtin "object.__class__") = some true) &&
  decide (PySem.W.mroIn K (He.ga K c) (.type "object") = some true)))) && (ts.all fun t => decide (PySem.W.kitOne K (.type t) (.ref (He.ga K c)) = some false))
theorem ins_ty {K : PySem.W.Frag} {c : Str} {ts : List String} {H : Hp} {a dx : Addr} {fs : List (Str × V)} (h : insB K c ts = true) (cl : Cls K (He.ga K c)) (e : H a = some (.ins (He.ga K c) dx fs)) : TyX K H (.ref a) (.ref (He.ga K c)) := by
  obtain ⟨h, _⟩ := He.ba h
  obtain ⟨h1, h⟩ := He.ba h
  obtain ⟨h2, h⟩ := He.ba h
  obtain ⟨h3, h4⟩ := He.ba h
  exact .base (.ins e cl (He.eqO_ok h1) (He.eqO_ok h2) (of_decide_eq_true h3) (of_decide_eq_true h4))
theorem ins_not {K : PySem.W.Frag} {c : Str} {ts : List String} (h : insB K c ts = true) {t : String} (m : t ∈ ts) : PySem.W.kitOne K (.type t) (.ref (He.ga K c)) = some false :=
  of_decide_eq_true (List.all_eq_true.mp (He.ba h).2 t m)
theorem kit_self {K : PySem.W.Frag} {v : Value} : PySem.W.kitOne K v v = some true := by
  unfold PySem.W.kitOne
  simp
theorem nf_at {K : PySem.W.Frag} {c : Str} {ts : List String} (h : nfB K c ts = true) {t : String} (m : t ∈ ts) : PySem.W.notFirst K (He.ga K c) (.type t) = true := List.all_eq_true.mp h t m
/-! ### a def promised at a place -/
def At (P : Program) (w : World) (K : PySem.W.Frag) (mg : Str → Option Value) (base : Heap) (f : Addr) (k : Nat) (ps : List Str) (sp : Sp) : Prop := ∃ fd, FnOk P w K mg base CX0 k f fd ps sp ∧ Binds K fd ps []
section
variable {P : Program} {w : World} {K : PySem.W.Frag} {mg : Str → Option Value} {base : Heap} {x q : Str} {k : Nat} {ps : List Str} {sp : Sp} {f : Addr}
theorem at_of {st : Stmt} {N : List Str} (F : ∃ fd, FunD K x q (defArgs st) (defBody st) (defScope st) [] [] f fd) (S : FnScope N ps (defScope st))
    (hb : ∀ (kV doc pm : Value) (an : Option Addr) (cdv ct : Value) (us : List Value), us.length = ps.length → bindArgs (PySem.W.fnOf x q (defArgs st) (defBody st) (defScope st) .none kV doc pm an cdv ct) ⟨us, []⟩ = pure (ps.zip us))
    (len : ∀ vs H Q E, sp vs H Q E → vs.length = ps.length)
    (body : ∀ (cdv : Value) (A : Around) (outer : List Env) (s : Shared) (H : Hp) (vs : List V) (Q : VK) (E : XK), Room k (A.deeper (envOfC q (defScope st) s.heap.objs.size f cdv)) → sp vs H Q E →
      ∃ t, PSs (cxOf CX0 P w K mg base N q (defScope st) f cdv A outer s H E).nox (defBody st) t ∧ t { nx := fun _ H' => Q .non H', rt := Q } (start N vs) H) :
    At P w K mg base f (k + 1) ps sp := by
  obtain ⟨fd, F⟩ := F
  refine ⟨fd, F.ok S len fun cdv A outer s H vs Q E hr h => ?_, F.bindsN hb⟩
  obtain ⟨t, h1, h2⟩ := body cdv A outer s H vs Q E hr h
  exact ⟨t, h1.nox, h2⟩
end
section
variable {X : Cx} {k : Nat} {ps : List Str} {sp : Sp} {C f pr : Addr} {m : Str} {pos apos : Pos} {e o : Expr} {es : List Expr} {ta : TE} {t : TA}
theorem pe_at {pl : Sem Bool} (h : At X.prog X.w X.K X.mg X.base f k ps sp) (c : Cls X.K C) (hm : Meth X.K C m f) (hr : Room k X.A) (he : PE X o ta) (ha : PA X (e :: es) t)
    (hst : starEach (e :: es) X.env = (false, eval e X.env) :: starEach es X.env := by rfl) (hpl : (backTo pos (starEach es X.env)).any (·.1) = false := by rfl)
    (ht : eval (.Call (.Attribute o m apos) (e :: es) [] pos) X.env = (do
      let ov ← eval o X.env
      standAt apos.atName
      let (f, first) ← holding [ov] (getMethod ov m pl)
      callWith pos f first (backTo pos (starEach (e :: es) X.env)) (backToKw pos (keywordEach [] X.env))) := by rfl) :
    PE X (.Call (.Attribute o m apos) (e :: es) [] pos) (tMeth C m sp [] E0 ta t) := by
  obtain ⟨fd, F, hb⟩ := h
  exact pe_meth (pl := pl) he c hm F hr hb .nil pass0 ha hst hpl ht
theorem pe_at0 {pl : Sem Bool} (h : At X.prog X.w X.K X.mg X.base f k ps sp) (c : Cls X.K C) (hm : Meth X.K C m f) (hr : Room k X.A) (he : PE X o ta)
    (ht : eval (.Call (.Attribute o m apos) [] [] pos) X.env = (do
      let ov ← eval o X.env
      standAt apos.atName
      let (f, first) ← holding [ov] (getMethod ov m pl)
      callWith pos f first (backTo pos (starEach [] X.env)) (backToKw pos (keywordEach [] X.env))) := by rfl) :
    PE X (.Call (.Attribute o m apos) [] [] pos) (tMeth C m sp [] E0 ta tNil) := by
  obtain ⟨fd, F, hb⟩ := h
  exact pe_meth0 (pl := pl) he c hm F hr hb .nil pass0 ht
theorem pe_atP (h : At X.prog X.w X.K X.mg X.base f k ps sp) (c : Cls X.K C) (hp : PropOf X.K C m pr f) (hr : Room (k + 1) X.A) (he : PE X e ta) (hab : attributeBase e m X.env (eval e X.env) = eval e X.env := by rfl) :
    PE X (.Attribute e m pos) (tProp C sp [] E0 ta) := by
  obtain ⟨fd, F, hb⟩ := h
  exact pe_prop he c hp F hr hb .nil pass0 hab
theorem at_getter {P : Program} {w : World} {K : PySem.W.Frag} {mg : Str → Option Value} {base : Heap} {x q g : Str} {args : Arguments} {body : List Stmt} {sc : Scope} {N : List Str} {p1 p2 p3 : Pos}
    (F : ∃ fd, FunD K x q args body sc [] [] f fd) (S : FnScope N ["self"] sc) (hN : N[0]? = some ("self" : Str)) (hbo : body = [.Return (some (.Attribute (.Name "self" p1) g p2)) p3]) (c : Cls K C) (n : NoAttr K C g)
    (hb : ∀ (kV doc pm : Value) (an : Option Addr) (cdv ct : Value) (us : List Value), us.length = 1 → bindArgs (PySem.W.fnOf x q args body sc .none kV doc pm an cdv ct) ⟨us, []⟩ = pure ((["self"] : List Str).zip us)) :
    At P w K mg base f 1 ["self"] (getSp C g) := by
  obtain ⟨fd, F⟩ := F
  have B := F.bindsN (ps := [Str.ofString "self"]) hb
  obtain ⟨oc, od, dV, kV, doc, pm, an, cdv, ct, osl, rfl, lk, hcd, hD, hK⟩ := F.ex
  exact ⟨_, fn_getter (k := 0) lk hcd S hN hbo c n, B⟩
/-- o.m(k = v, ..) -/
theorem pe_methK0 {CX : CXT} {fd : FuncData} {ks : List Str} {E : XK} {kws : List Keyword} {tk : TA} {g : List Value → List Value → List Value} {gV : List V → List V → List V} {pl : Sem Bool} (he : PE X o ta) (c : Cls X.K C) (hm : Meth X.K C m f)
    (F : FnOk X.prog X.w X.K X.mg X.base CX k f fd ps sp) (hr : Room k X.A) (hb : KBn X.K fd ps 1 ks g gV) (hx : Passes CX X E) (hkw : PK X kws tk)
    (hall : (backToKw pos (keywordEach kws X.env)).all (·.1.isSome) = true := by rfl) (hks : (backToKw pos (keywordEach kws X.env)).filterMap (·.1) = ks := by rfl)
    (hpl : ((backTo pos (starEach [] X.env)).any (·.1) || (backToKw pos (keywordEach kws X.env)).any (·.1.isNone)) = false := by rfl)
    (ht : eval (.Call (.Attribute o m apos) [] kws pos) X.env = (do
      let ov ← eval o X.env
      standAt apos.atName
      let (f, first) ← holding [ov] (getMethod ov m pl)
      callWith pos f first (backTo pos (starEach [] X.env)) (backToKw pos (keywordEach kws X.env))) := by rfl) :
    PE X (.Call (.Attribute o m apos) [] kws pos) (fun σ H Q => ta σ H fun x H1 => ∃ a dx fs, x = .ref a ∧ H1 a = some (.ins C dx fs) ∧ fs.lookup m = none ∧ tk σ H1 fun zs H2 => zs.length = ks.length ∧ sp (gV [.ref a] zs) H2 Q E) := by
  refine ⟨fun pins s σ H Q I h => ?_⟩
  refine PySem.W.methodCall_KW (pl := pl) (thn (he.run pins s σ H _ I h) fun u s1 ⟨x, H1, I1, rx, a, dx, fs, ex, ea, l, q⟩ => ?_) ht
  subst ex
  obtain rfl : u = Value.ref a := rx
  refine getmeth_ok I1 ea c hm l ?_
  refine PySem.W.callWith_KW0 (first := [.ref a]) (h₀ := X.base) I.ok.mod.kin hm.kp hall ?_ hpl
  refine thn (hkw.run pos pins s1 σ H1 _ I1 q) fun ws s2 ⟨zs, H2, I2, rz, lz, q2⟩ => ⟨I2.kIn, ?_⟩
  rw [hks]
  have r2 := hb.rel (vs := [.ref a]) (us := [.ref a]) (.cons rfl .nil) rz
  refine wpAny_call (codeAny_mono (F.run X.A X.stack s2 H2 ⟨[.ref a], ks.zip ws⟩ (g [.ref a] ws) (gV [.ref a] zs) Q E hr I2.env0 (hb.to s2 [.ref a] ws I2.kIn rfl (rz.length.symm.trans lz)) r2 q2) fun r s' hq => ?_)
  cases r with
  | error e => exact hx pins σ H2 s2 e s' I2 hq
  | ok fl =>
    cases fl with
    | ret u => exact I2.after hq
    | next => exact False.elim hq
    | brk => exact False.elim hq
    | cont => exact False.elim hq
end
/-! ### == of own objects -/
section
variable {X : Cx} {n : Nat} {c : Str} {ps : List Str} {sp : Sp}
theorem op_eqA (h : At X.prog X.w X.K X.mg X.base (mAt c "__eq__" X.K) n ps sp) (e : eqB X.K c = true) (hr : Room n X.A) : OpR X (compareOp .Eq) (rOwn X.K (He.ga X.K c) sp false) := by
  obtain ⟨fd, F, hb⟩ := h
  obtain ⟨h1, e⟩ := He.ba e
  obtain ⟨h2, e⟩ := He.ba e
  obtain ⟨h3, h4⟩ := He.ba e
  exact op_eqO F (He.eqO_ok h3) h4 hb hr
theorem op_neA (h : At X.prog X.w X.K X.mg X.base (mAt c "__eq__" X.K) n ps sp) (e : eqB X.K c = true) (hr : Room (n + 1) X.A) : OpR X (compareOp .NotEq) (rOwn X.K (He.ga X.K c) sp true) := by
  obtain ⟨fd, F, hb⟩ := h
  obtain ⟨h1, e⟩ := He.ba e
  obtain ⟨h2, e⟩ := He.ba e
  obtain ⟨h3, h4⟩ := He.ba e
  exact op_neO F (He.eqO_ok h1) (of_decide_eq_true h2) (He.eqO_ok h3) h4 hb hr
end
/-! ### texts in a row -/
theorem inV_strs {z : Str} : ∀ ws : List Str, inV (.str z) (ws.map V.str) = decide (z ∈ ws)
  | [] => rfl
  | y :: r => by
    have q := inV_strs (z := z) r
    unfold inV at q ⊢
    rw [List.map_cons, List.any_cons, q]
    by_cases h : y = z
    · subst h
      simp [eqV]
    · have h2 : ¬ z = y := fun e => h e.symm
      simp [eqV, h, h2]
theorem flat_strs (ws : List Str) : (ws.map V.str).all flatV = true := by
  rw [List.all_map]
  exact List.all_eq_true.mpr fun _ _ => rfl
end HL

namespace HL
open PySem PySem.Spec PyProof.Rows L2
/-! ### set(xs) of ints and texts: the different ones, in the order in which they are met -/
section
variable {κ : Type} [DecidableEq κ]
def meet1 (acc : List κ) (k : κ) : List κ := if k ∈ acc then acc else acc ++ [k]
def met (ks : List κ) : List κ := ks.foldl meet1 []
theorem met_snoc (ks : List κ) (k : κ) : met (ks ++ [k]) = meet1 (met ks) k := by
  unfold met
  rw [List.foldl_append]
  rfl
theorem meet1_len (acc : List κ) (k : κ) : (meet1 acc k).length = if k ∈ acc then acc.length else acc.length + 1 := by
  unfold meet1
  split
  · rfl
  · rw [List.length_append, List.length_singleton]
theorem mem_meet1 {acc : List κ} {k j : κ} : j ∈ meet1 acc k ↔ j ∈ acc ∨ j = k := by
  unfold meet1
  split
  · rename_i h
    refine ⟨.inl, fun q => q.elim id fun q => by rw [q]; exact h⟩
  · rw [List.mem_append, List.mem_singleton]
theorem met_go (ks : List κ) : ∀ acc : List κ, acc.length ≤ (ks.foldl meet1 acc).length ∧ (ks.foldl meet1 acc).length ≤ acc.length + ks.length := by
  induction ks with
  | nil => intro acc; exact ⟨Nat.le_refl _, Nat.le_refl _⟩
  | cons k r ih =>
    intro acc
    have h1 := meet1_len acc k
    have h2 := ih (meet1 acc k)
    rw [List.foldl_cons, List.length_cons]
    split at h1 <;> omega
theorem met_len (ks : List κ) : (met ks).length ≤ ks.length := by
  have h := (met_go ks []).2
  rw [List.length_nil, Nat.zero_add] at h
  exact h
/-- as many as there are exactly if none stands there twice -/
theorem met_full (ks : List κ) : ∀ acc : List κ, (ks.foldl meet1 acc).length = acc.length + ks.length ↔ ks.Nodup ∧ ∀ k ∈ ks, k ∉ acc := by
  induction ks with
  | nil => intro acc; simp
  | cons k r ih =>
    intro acc
    rw [List.foldl_cons, List.length_cons, List.nodup_cons]
    by_cases hk : k ∈ acc
    · have e : meet1 acc k = acc := if_pos hk
      rw [e]
      refine ⟨fun q => ?_, fun q => absurd hk (q.2 k List.mem_cons_self)⟩
      have := (met_go r acc).2
      omega
    · have e : meet1 acc k = acc ++ [k] := if_neg hk
      rw [e]
      have h := ih (acc ++ [k])
      rw [List.length_append, List.length_singleton] at h
      have h2 : (r.foldl meet1 (acc ++ [k])).length = acc.length + (r.length + 1) ↔ (r.foldl meet1 (acc ++ [k])).length = acc.length + 1 + r.length := by omega
      rw [h2, h]
      constructor
      · rintro ⟨a, b⟩
        refine ⟨⟨fun m => b k m (by simp), a⟩, fun j hj => ?_⟩
        rcases List.mem_cons.mp hj with rfl | hj
        · exact hk
        · exact fun m => b j hj (List.mem_append_left _ m)
      · rintro ⟨⟨a, b⟩, c⟩
        refine ⟨b, fun j hj m => ?_⟩
        rcases List.mem_append.mp m with m | m
        · exact c j (List.mem_cons_of_mem _ hj) m
        · rw [List.mem_singleton.mp m] at hj
          exact a hj
theorem met_nodup (ks : List κ) : (met ks).length = ks.length ↔ ks.Nodup := by
  have h := met_full ks []
  rw [List.length_nil, Nat.zero_add] at h
  rw [show met ks = ks.foldl meet1 [] from rfl, h]
  simp
end
section
variable {prog : Program} {w : World} {A : Around} {R : Result → Shared → Prop} {it : Addr} {fp wr : List Addr} {G : Array GenState → Array GenState → Prop} {n : Nat} {Pv : Nat → Value → Prop} {St : Nat → Shared → Prop}
  {κ : Type} [DecidableEq κ] {knd : KeyKind prog w κ}
theorem set_moved {S : Addr} {F : κ → Bool} {m : Nat} {s s' : Shared} (h : s.heap.SetOf knd S F m) (k : ∀ o, s.heap.get? S = some o → s'.heap.get? S = some o) : s'.heap.SetOf knd S F m := by
  obtain ⟨o, es, ep, t, ho, r⟩ := h
  exact ⟨o, es, ep, t, k o ho, r⟩
theorem set_grow (W : WalksS prog w A.in1 it fp wr G n Pv St) (S : Addr) (hS : S ∉ fp) (ks : List κ) (hn : ks.length = n) (hb : n + 1 < scanBound)
    (hv : ∀ i v, Pv i v → ∃ k, ks[i]? = some k ∧ knd.is k v = true ∧ v.scannable = true) : ∀ (m i : Nat) (s : Shared), n - i = m → i ≤ n → St i s →
      s.heap.SetOf knd S (fun k => decide (k ∈ met (ks.take i))) (met (ks.take i)).length →
      (∀ s', Moved (S :: wr) G s s' → s'.heap.SetOf knd S (fun k => decide (k ∈ met ks)) (met ks).length → R (.ok (.ret .none)) s') →
      codeAny (model prog w) A (.builtin "set.update.loop" ⟨[.ref S, .ref it], []⟩) R s := by
  have nw : S ∉ wr := fun h => hS (W.sub _ h)
  have up : ∀ b ∈ wr, b ∈ S :: wr := fun b hb => List.mem_cons_of_mem _ hb
  intro m
  induction m with
  | zero =>
    intro i s hm hi st hs hR
    have ei : i = ks.length := by omega
    rw [ei, List.take_length] at hs
    refine codeAny_builtin PyProof.Rows.F.entry_set_update_loop ?_
    rw [Around.under_plainId PyProof.Rows.F.plain_set_update_loop _]
    refine wpAny_bind (W.done s _ _ (by rw [← hn, ← ei]; exact st) fun s' mv => ?_)
    exact wpAny_pure (hR s' (mv.mono up) (set_moved hs fun o e => mv.heap S o nw e))
  | succ m ih =>
    intro i s hm hi st hs hR
    have lt : i < n := by omega
    refine codeAny_builtin PyProof.Rows.F.entry_set_update_loop ?_
    rw [Around.under_plainId PyProof.Rows.F.plain_set_update_loop _]
    refine wpAny_bind (W.item i s _ _ lt st fun v s1 hp st1 mv => ?_)
    obtain ⟨k, hk, his, hsc⟩ := hv i v hp
    have tk : ks.take (i + 1) = ks.take i ++ [k] := by
      rw [List.take_succ, hk]
      rfl
    have hs1 := set_moved hs fun o e => mv.heap S o nw e
    refine wpAny_bind (wpAny_holding ?_)
    unfold setAdd
    refine wpAny_holding (wpAny_bind (knd.pyHash (k := k) his ?_))
    have le : (met (ks.take i)).length + 1 < scanBound := by
      have := met_len (ks.take i)
      rw [List.length_take] at this
      omega
    refine wpAny_setAddHashed_of (knd := knd) (s := { s1 with toks := s1.toks + 1 }) his hsc hs1 le fun h' sb hs2 => ?_
    have hs3 : h'.SetOf knd S (fun j => decide (j ∈ met (ks.take (i + 1)))) (met (ks.take (i + 1))).length := by
      rw [tk, met_snoc]
      have e1 : (fun j => decide (j ∈ meet1 (met (ks.take i)) k)) = fun j => decide (j ∈ met (ks.take i)) || decide (j = k) := by
        funext j
        rw [← Bool.decide_or]
        exact decide_eq_decide.mpr mem_meet1
      have e2 := meet1_len (met (ks.take i)) k
      rw [e1, e2]
      simpa using hs2
    refine wpAny_pure ⟨plainId_quiet PyProof.Rows.F.plain_set_update_loop _, ih (i + 1) _ (by omega) lt (W.frame _ s1 _ _ st1 (Nat.le_succ _) fun b hb o e => ?_) hs3 fun s2 mv2 hs4 => ?_⟩
    · rw [sb.2 b fun z : b = S => hS (by rw [← z]; exact hb)]
      exact e
    · refine hR s2 (Moved.trans W.gtrans ((mv.mono up).then_heap (Nat.le_succ _) fun b o hb e => ?_) mv2) hs4
      rw [sb.2 b fun z : b = S => hb (by rw [z]; exact List.mem_cons_self)]
      exact e
end

section
variable {prog : Program} {w : World} {A : Around} {E : Value → Shared → Prop} {s : Shared} {κ : Type} [DecidableEq κ] {knd : KeyKind prog w κ}
abbrev emptySet (led : Bool) : Obj := { cls := .type "set", dict := none, data := .set #[] 0 (.fresh 0 0 led) }
theorem empty_met {led : Bool} {h : Heap} {S : Addr} (e : h.get? S = some (emptySet led)) : h.SetOf knd S (fun k => decide (k ∈ met ([] : List κ))) (met ([] : List κ)).length :=
  PyProof.Rows.SetOf_congr ((PyProof.Rows.setObjOf_fresh (knd := knd) led).setOf e (by unfold scanBound; omega)) (fun _ => rfl) rfl
theorem call_set_seq {l : Addr} {items : Array Value} {ks : List κ} {Q : Value → Shared → Prop} (hh : A.handled = none) (hl : s.heap.IsList l items ∨ s.heap.IsTuple l items) (hn : ks.length = items.size) (hb : items.size + 1 < scanBound)
    (hv : ∀ (i : Nat) (v : Value), items[i]? = some v → ∃ k, ks[i]? = some k ∧ knd.is k v = true ∧ v.scannable = true)
    (h : ∀ (h' : Heap) (tk : Nat), h'.SetOf knd s.heap.objs.size (fun k => decide (k ∈ met ks)) (met ks).length → (∀ b o, s.heap.get? b = some o → h'.get? b = some o) → Q (.ref s.heap.objs.size) { s with heap := h', toks := tk }) :
    wpAny (model prog w) A (call (.type "set") [.ref l]) Q E s := by
  have lS : l < s.heap.objs.size := by
    rcases hl with ⟨o, e, _⟩ | ⟨o, e, _⟩
    all_goals exact Heap.lt_size e
  have mro := PySem.F.called_set.mro
  obtain ⟨c, tl, hmro⟩ := mro
  have hmade := PySem.F.called_set.made
  have hsub := PySem.F.called_set.sub
  refine wpAny_call (codeAny_of_tree ?_)
  show wpAny _ _ (callAny (.type "set") _) _ _ _
  refine wpAny_pure ⟨Code.quiet_builtin _ (by decide +kernel), codeAny_builtin PySem.F.entry_type_call ?_⟩
  rw [Around.under_plain (weight_type_call_type "set" [.ref l] []) rfl]
  have c1 := PySem.F.called_set.notType
  have c2 := PySem.F.called_set.canCreate
  have c3 := PySem.F.typeCall_set_1 (.ref l)
  repeat (any_goals (first | assumption | wp_step))
  refine codeAny_mono (code_set_new_1 (.ref l) (E := E) (Q₁ := fun obj s1 => ∃ led : Bool, obj = .ref s.heap.objs.size ∧ s1 = { s with heap := s.heap.push (emptySet led) }) fun led => ⟨led, rfl, rfl⟩) fun r s1 hr => ?_
  match r, hr with
  | .error e, hr => exact hr
  | .ok (.ret obj), hr =>
    obtain ⟨led, rfl, rfl⟩ := hr
    have gS : (s.heap.push (emptySet led)).get? s.heap.objs.size = some (emptySet led) := Heap.get?_push_size _ rfl
    have tS : Shared.TypeIs { s with heap := s.heap.push (emptySet led) } (.ref s.heap.objs.size) "set" := ⟨_, gS, rfl⟩
    have i1 := PySem.F.called_set.init.lookup
    have i2 := PySem.F.called_set.init.bind (.ref s.heap.objs.size)
    repeat (any_goals (first | assumption | wp_step))
    refine codeAny_mono (codeAny_call_builtin (R := wants (fun r s2 => r = .none ∧ ∃ h' tk, s2 = { s with heap := h', toks := tk } ∧ h'.SetOf knd s.heap.objs.size (fun k => decide (k ∈ met ks)) (met ks).length ∧
        ∀ b o, s.heap.get? b = some o → h'.get? b = some o) E) PySem.F.called_set.init.plain PySem.F.entry_set_init (check_set_init_1 tS ?_)) fun r2 s2 hr2 => ?_
    · have h3 : A.in1.in1.in1.handled = none := by simp [hh]
      have ne : l ≠ (s.heap.push (emptySet led)).objs.size := by
        rw [Heap.size_push]
        exact Nat.ne_of_lt (Nat.lt_succ_of_lt lS)
      have nS : s.heap.objs.size ∉ [(s.heap.push (emptySet led)).objs.size, l] := by
        rw [Heap.size_push]
        simp only [List.mem_cons, List.not_mem_nil, or_false, not_or]
        exact ⟨Nat.ne_of_lt (Nat.lt_succ_self _), Nat.ne_of_gt lS⟩
      have ends : ∀ (o : Obj) (s' : Shared), Moved (s.heap.objs.size :: [(s.heap.push (emptySet led)).objs.size]) (fun a b => b = a) { s with heap := (s.heap.push (emptySet led)).push o } s' →
          s'.heap.SetOf knd s.heap.objs.size (fun k => decide (k ∈ met ks)) (met ks).length →
          ∃ h' tk, s' = { s with heap := h', toks := tk } ∧ h'.SetOf knd s.heap.objs.size (fun k => decide (k ∈ met ks)) (met ks).length ∧ ∀ b o, s.heap.get? b = some o → h'.get? b = some o := fun ob s' mv hs => by
        obtain ⟨h', g', d', tk', os'⟩ := s'
        have e1 : g' = s.gens := mv.gens
        have e2 : d' = s.drawn := mv.drawn
        have e3 : os' = s.os := mv.os
        subst e1 e2 e3
        refine ⟨h', tk', rfl, hs, fun b o e => mv.heap b o ?_ (Heap.get?_push_of_some _ (Heap.get?_push_of_some _ e))⟩
        have q := Heap.lt_size e
        rw [Heap.size_push]
        simp only [List.mem_cons, List.not_mem_nil, or_false, not_or]
        exact ⟨Nat.ne_of_lt q, Nat.ne_of_lt (Nat.lt_succ_of_lt q)⟩
      rcases hl with ⟨⟨oc, od, dt, sl⟩, e, ec, nn, ed⟩ | ⟨⟨oc, od, dt, sl⟩, e, ec, nn, ed⟩
      · simp only at ec ed
        subst ec ed
        have e' : (s.heap.push (emptySet led)).get? l = some ⟨.type "list", od, .seq items nn, sl⟩ := Heap.get?_push_of_some _ e
        have q1 := PySem.F.sub_list_set
        have q2 := PySem.F.sub_list_frozenset
        have q3 : (Value.type "list" == Value.type "dict") = false := by decide
        have hl1 : (s.heap.push (emptySet led)).IsList l items := ⟨_, e', rfl, nn, rfl⟩
        unfold Builtin.«set.__init__» noKeywords Builtin.Frozenset.updateFrom
        generalize hPI : pyIter = PI
        wp_walk
        subst hPI
        refine wpAny_pyIter_list hl1 (wpAny_bind (wpAny_runValue ?_))
        refine set_grow (knd := knd) ((Walks.list h3 _ l ne items).toS) s.heap.objs.size nS ks hn hb hv (items.size - 0) 0 _ (by omega) (Nat.zero_le _) ⟨⟨_, Heap.get?_push_size _ rfl, rfl, rfl⟩, hl1.push _⟩ (empty_met (Heap.get?_push_of_some _ gS)) fun s' mv hs => ?_
        refine wpAny_pure ?_
        show wpAny _ _ (ret Value.none) _ _ _
        exact wpAny_pure ⟨rfl, ends _ s' mv hs⟩
      · simp only at ec ed
        subst ec ed
        have e' : (s.heap.push (emptySet led)).get? l = some ⟨.type "tuple", od, .seq items nn, sl⟩ := Heap.get?_push_of_some _ e
        have q1 := PySem.F.sub_tuple_set
        have q2 := PySem.F.sub_tuple_frozenset
        have q3 : (Value.type "tuple" == Value.type "dict") = false := by decide
        have hl1 : (s.heap.push (emptySet led)).IsTuple l items := ⟨_, e', rfl, nn, rfl⟩
        unfold Builtin.«set.__init__» noKeywords Builtin.Frozenset.updateFrom
        generalize hPI : pyIter = PI
        wp_walk
        subst hPI
        refine wpAny_pyIter_tuple hl1 (wpAny_bind (wpAny_runValue ?_))
        refine set_grow (knd := knd) ((Walks.tuple h3 _ l ne items).toS) s.heap.objs.size nS ks hn hb hv (items.size - 0) 0 _ (by omega) (Nat.zero_le _) ⟨⟨_, Heap.get?_push_size _ rfl, rfl, rfl⟩, hl1.push _⟩ (empty_met (Heap.get?_push_of_some _ gS)) fun s' mv hs => ?_
        refine wpAny_pure ?_
        show wpAny _ _ (ret Value.none) _ _ _
        exact wpAny_pure ⟨rfl, ends _ s' mv hs⟩
    · match r2, hr2 with
      | .error e, hr2 => exact hr2
      | .ok (.ret z), hr2 =>
        obtain ⟨rfl, h', tk, rfl, a, b⟩ := hr2
        repeat (any_goals (first | assumption | wp_step))
        exact h _ _ a b
end
/-- len(set(xs)): a list or a tuple of ints and texts -/
def tLenSetK (K : PySem.W.Frag) (ta : TE) : TE := fun σ H Q => ta σ H fun x H1 => ∃ (l : Addr) (ks : List Key), x = .ref l ∧ (SqL K H1 l (ks.map kV) ∨ SqT K H1 l (ks.map kV)) ∧ ks.length ≤ 4000 ∧ Q (.int ((met ks).length : Nat)) H1
theorem key_of {v : Value} {k : Key} (r : L2.RelV (kV k) v) : keyIs k v = true ∧ v.scannable = true := by
  cases k with
  | inl i =>
    obtain ⟨t, rfl⟩ := r
    exact ⟨keyIs_int i t, rfl⟩
  | inr x =>
    obtain ⟨t, rfl⟩ := r
    exact ⟨keyIs_str x t, rfl⟩
theorem pe_lenSetK {X : Cx} {a : Expr} {ta : TE} {p p2 q pos : Pos} (hg : Gl X "len") (hm : X.mg "len" = none) (hg2 : Gl X "set") (hm2 : X.mg "set" = none) (ha : PE X a ta) (hc : X.calm = true := by rfl)
    (na : starEach [a] X.env = (false, eval a X.env) :: starEach [] X.env := by rfl) : PE X (.Call (.Name "len" p) [.Call (.Name "set" p2) [a] [] q] [] pos) (tLenSetK X.K ta) := by
  refine ⟨fun pins s σ H Q I h => Call_ (ld_blt I hg hm boot_len (PyProof.Rows.callWith_builtin1 (PyProof.Rows.args_cons ?_ rfl) rfl rfl))⟩
  refine Call_ (ld_blt I hg2 hm2 boot_set (PyProof.Rows.callWith_type1 (PyProof.Rows.args_cons (thn (ha.run pins s σ H _ I h) fun v s1 hh => PyProof.Rows.args_nil ?_) na) na rfl))
  obtain ⟨x, H1, I1, r1, l, ks, rfl, hq, hz, q1⟩ := hh
  cases r1
  have key : ∃ its : List Value, Vals (ks.map kV) its ∧ (s1.heap.IsList l its.toArray ∨ s1.heap.IsTuple l its.toArray) := by
    rcases hq with hq | hq
    · obtain ⟨its, r, pl, _⟩ := I1.list hq
      exact ⟨its, r, .inl pl.isList⟩
    · obtain ⟨its, r, pl, _⟩ := I1.tuple hq
      exact ⟨its, r, .inr pl⟩
  obtain ⟨its, r, hl⟩ := key
  have hlen : ks.length = its.toArray.size := by
    rw [List.size_toArray, ← r.length, List.length_map]
  refine call_set_seq (knd := mixKind X.prog X.w) (ks := ks) (I1.ok.hd hc) hl hlen (by rw [← hlen]; unfold scanBound; omega) (fun i v hv => ?_) fun h' tk hS hk => PyProof.Rows.args_nil ?_
  · have hv2 : its[i]? = some v := by simpa using hv
    have lt : i < (ks.map kV).length := by
      rw [r.length]
      exact (List.getElem?_eq_some_iff.mp hv2).1
    obtain ⟨u, e1, e2⟩ := r.get (List.getElem?_eq_getElem lt)
    rw [hv2] at e1
    cases e1
    rw [List.length_map] at lt
    refine ⟨ks[i], List.getElem?_eq_getElem lt, ?_⟩
    rw [List.getElem_map] at e2
    exact key_of e2
  · obtain ⟨o, es, ep, t, ho, hex, hd, _, _, _, hf, hn⟩ := hS
    have I2 : Inv X pins σ H1 { s1 with heap := h', toks := tk } := I1.kept hk
    have ml := met_len ks
    exact call_len_set ho hex hd hf (by rw [hn]; omega) ⟨.int (met ks).length, H1, I2.tok _, ⟨_, by rw [hn]⟩, q1⟩
end HL

namespace HL
open PySem PySem.Spec PyProof.Rows L2
/-- d[k] = v as a target -/
def sDict : TSet := fun o i v H Q => ∃ (a : Addr) (H' : Hp), o = .ref a ∧ DPut H a i v H' ∧ Q H'
theorem set_dict {X : Cx} (hu : X.A.units + 1 < cLine) : PSet X sDict := by
  intro pins s σ H o i v ov iv u Q I ro ri rv h
  obtain ⟨a, H', rfl, g, q⟩ := h
  cases ro
  exact d_setItem hu I g ri rv fun s' I' => ⟨H', I', q⟩
theorem TyX.kp {K : PySem.W.Frag} {H H' : Hp} {v : V} {t : Value} (h : TyX K H v t) (e : Kp H H') : TyX K H' v t := by
  cases h with
  | base b =>
    cases b with
    | non => exact .base .non
    | bl x => exact .base (.bl x)
    | int x => exact .base (.int x)
    | str x => exact .base (.str x)
    | flt x => exact .base (.flt x)
    | lst q => exact .base (.lst (e.lst q))
    | frz q => exact .base (.frz (e.frz q))
    | tup q => exact .base (.tup (e.tup q))
    | dK q => exact .base (.dK (e.dK q))
    | dT q => exact .base (.dT (e _ _ (fun _ z => by cases z) q))
    | ins q a b c d f => exact .base (.ins (e.ins q) a b c d f)
  | byt b => exact .byt b
  | set q => exact .set (e _ _ (fun _ z => by cases z) q)
  | kList a b => exact .kList a b
  | kTuple a b => exact .kTuple a b
  | kDict a b => exact .kDict a b
  | fTuple q => exact .fTuple (e.frz q)
  | fDict q => exact .fDict (e.frz q)
/-- a new object: the heap by a name -/
theorem new_ {H : Hp} {p : Addr} {o : HO} (h : H p = none) : ∃ H1, upd H p o = H1 ∧ Same H H1 ∧ H1 p = some o := ⟨_, rfl, same_new h, upd_same⟩
theorem new_s {H H1 : Hp} {p : Addr} {o : HO} (e : upd H p o = H1) (h : H p = none) : Same H H1 := by
  rw [← e]
  exact same_new h
theorem new_f {H H1 : Hp} {p : Addr} {o : HO} (e : upd H p o = H1) : H1 p = some o := by
  rw [← e]
  exact upd_same
theorem same_none {H H' : Hp} {a : Addr} (e : Same H H') (h : H' a = none) : H a = none := by
  cases q : H a with
  | none => rfl
  | some o =>
    rw [e _ _ q] at h
    cases h
/-! relations by name, for use inside a comprehension -/
def rLenQ (K : PySem.W.Frag) : List V → Hp → VK → Prop := fun xs H Q => ∃ p ys, xs = [.ref p] ∧ (SqL K H p ys ∨ SqT K H p ys) ∧ Q (.int ys.length) H
def rListQ (K : PySem.W.Frag) : List V → Hp → VK → Prop := fun xs H Q => ∃ p ys, xs = [.ref p] ∧ (SqL K H p ys ∨ SqT K H p ys) ∧ ∀ l, H l = none → Q (.ref l) (upd H l (.lst ys))
def rTupQ (K : PySem.W.Frag) : List V → Hp → VK → Prop := fun xs H Q => ∃ p ys, xs = [.ref p] ∧ ((SqL K H p ys ∧ ∀ l, H l = none → Q (.ref l) (upd H l (.tup ys))) ∨ (SqT K H p ys ∧ Q (.ref p) H))
/-- the names of the built-in kinds -/
def kinds7 : List String := ["NoneType", "bool", "int", "str", "list", "tuple", "dict"]
end HL

namespace HL
open PySem PySem.Spec PyProof.Rows L2
/-! ### comprehensions of two fors -/
theorem in_range {lo : Int} {n : Nat} {g1 : TG} {tt1 : TT} {te : TE} {vs1 : List Nat} {σ2 : L2.St} {H4 : Hp} {D : Addr} {Nx : Hp → Prop} (Pw : Nat → Hp → Prop) (h0 : Pw 0 H4)
    (hs : ∀ j H, j < n → Pw j H → g1 (.int (lo + j)) (wipe σ2 vs1) H fun σ3 H5 => wipe σ3 vs1 = wipe σ2 vs1 ∧ tt1 σ3 H5 fun b H6 =>
      if b = true then te σ3 H6 fun y H7 => ∃ acc, H7 D = some (.lst acc) ∧ acc.length < sizeLine ∧ Pw (j + 1) (upd H7 D (.lst (acc ++ [y]))) else Pw (j + 1) H6) (hd : ∀ H, Pw n H → Nx H) :
    ∃ W1 : Nat → Nat → Hp → Prop, (∃ m, W1 0 m H4) ∧ ∀ j k H, W1 j k H →
      ((Itr lo n).stop j H ∧ Nx H) ∨ ((Itr lo n).go j H ∧ ∃ Nx1 : Hp → Prop, (∀ H', Nx1 H' → ∃ k', k' < k ∧ W1 (j + 1) k' H') ∧ ∀ x H', (Itr lo n).yld j H x H' → g1 x (wipe σ2 vs1) H' fun σ3 H5 => wipe σ3 vs1 = wipe σ2 vs1 ∧ tt1 σ3 H5 fun b H6 =>
        if b = true then te σ3 H6 fun y H7 => ∃ acc, H7 D = some (.lst acc) ∧ acc.length < sizeLine ∧ Nx1 (upd H7 D (.lst (acc ++ [y]))) else Nx1 H6) := by
  refine ⟨fun j k H => k = n - j ∧ j ≤ n ∧ Pw j H, ⟨n, by simp, Nat.zero_le _, h0⟩, ?_⟩
  rintro j k H ⟨rfl, hj, p⟩
  by_cases hlt : j < n
  · refine .inr ⟨hlt, Pw (j + 1), fun H' p' => ⟨n - (j + 1), by omega, rfl, hlt, p'⟩, fun x H' y => ?_⟩
    obtain ⟨e, y⟩ := y
    subst e y
    exact hs j _ hlt p
  · have e : j = n := by omega
    subst e
    exact .inl ⟨Nat.le_refl _, hd H p⟩
theorem out_tup {K : PySem.W.Frag} {a : Addr} {xs : List V} {g : TG} {tt : TT} {B : L2.St → Hp → (Hp → Prop) → Prop} {vs : List Nat} {σ : L2.St} {H1 : Hp} {D : Addr} {Qd : Hp → Prop} (Pv : Nat → Hp → Prop) (h0 : Pv 0 (upd H1 D (.lst [])))
    (hl : ∀ i H, i ≤ xs.length → Pv i H → SqT K H a xs)
    (hs : ∀ i x H, xs[i]? = some x → Pv i H → g x (wipe σ vs) H fun σ2 H2 => wipe σ2 vs = wipe σ vs ∧ tt σ2 H2 fun b H3 => if b = true then B σ2 H3 (Pv (i + 1)) else Pv (i + 1) H3) (hd : ∀ H, Pv xs.length H → Qd H) :
    ∃ W : Nat → Nat → Hp → Prop, (∃ m, W 0 m (upd H1 D (.lst []))) ∧ ∀ i m H, W i m H →
      ((Itt K a).stop i H ∧ Qd H) ∨ ((Itt K a).go i H ∧ ∃ Nx : Hp → Prop, (∀ H', Nx H' → ∃ m', m' < m ∧ W (i + 1) m' H') ∧ ∀ x H', (Itt K a).yld i H x H' → g x (wipe σ vs) H' fun σ2 H2 => wipe σ2 vs = wipe σ vs ∧ tt σ2 H2 fun b H3 =>
        if b = true then B σ2 H3 Nx else Nx H3) := by
  refine ⟨fun i m H => m = xs.length - i ∧ i ≤ xs.length ∧ Pv i H, ⟨xs.length, by simp, Nat.zero_le _, h0⟩, ?_⟩
  rintro i m H ⟨rfl, hi, p⟩
  have q := hl i H hi p
  by_cases hlt : i < xs.length
  · refine .inr ⟨⟨xs, xs[i], q, by simp [hlt]⟩, Pv (i + 1), fun H' p' => ⟨xs.length - (i + 1), by omega, rfl, hlt, p'⟩, fun x H' y => ?_⟩
    obtain ⟨e, y⟩ := y
    subst e
    exact hs i x _ (y xs q) p
  · have e : i = xs.length := by omega
    subst e
    exact .inl ⟨⟨xs, q, Nat.le_refl _⟩, hd H p⟩
end HL

namespace HL
open PySem PySem.Spec PyProof.Rows L2
/-! ### f(k = v, ..): all arguments by name -/
def kPick {α : Type} (ix : List Nat) (ws : List α) : List α := ix.filterMap fun i => ws[i]?
theorem vals_kat {vs : List V} {us : List Value} (h : Vals vs us) : ∀ i : Nat, (vs[i]? = none ∧ us[i]? = none) ∨ ∃ v u, vs[i]? = some v ∧ us[i]? = some u ∧ RelV v u := by
  induction h with
  | nil => intro i; exact .inl ⟨rfl, rfl⟩
  | cons r rs ih =>
    intro i
    cases i with
    | zero => exact .inr ⟨_, _, rfl, rfl, r⟩
    | succ j => exact ih j
theorem vals_kPick {vs : List V} {us : List Value} (h : Vals vs us) : ∀ ix : List Nat, Vals (kPick ix vs) (kPick ix us)
  | [] => .nil
  | i :: r => by
    unfold kPick
    rw [List.filterMap_cons, List.filterMap_cons]
    rcases vals_kat h i with ⟨e1, e2⟩ | ⟨v, u, e1, e2, rr⟩
    · rw [e1, e2]
      exact vals_kPick h r
    · rw [e1, e2]
      exact .cons rr (vals_kPick h r)
/-- a global def that is called by the names ks alone; ix: where each parameter stands among them -/
def HasKw (P : Program) (w : World) (K : PySem.W.Frag) (mg : Str → Option Value) (base : Heap) (x : Str) (k : Nat) (ps ks : List Str) (ix : List Nat) (sp : Sp) : Prop :=
  ∃ f fd, mg x = some (.ref f) ∧ PySem.W.keepIn K (.ref f) = true ∧ FnOk P w K mg base CX0 k f fd ps sp ∧ KBn K fd ps 0 ks (fun _ ws => kPick ix ws) (fun _ zs => kPick ix zs)
section
variable {P : Program} {w : World} {K : PySem.W.Frag} {mg : Str → Option Value} {base : Heap} {x : Str} {k : Nat} {ps : List Str} {sp : Sp}
theorem haskw_of {f : Addr} {fd : FuncData} {st : Stmt} {ks : List Str} {ix : List Nat} (g : mg x = some (.ref f)) (F : FunD K x x (defArgs st) (defBody st) (defScope st) [] [] f fd) (ok : FnOk P w K mg base CX0 k f fd ps sp)
    (hb : ∀ (kV doc pm : Value) (an : Option Addr) (cdv ct : Value) (ws : List Value), ws.length = ks.length → bindArgs (PySem.W.fnOf x x (defArgs st) (defBody st) (defScope st) .none kV doc pm an cdv ct) ⟨[], ks.zip ws⟩ = pure (ps.zip (kPick ix ws))) :
    HasKw P w K mg base x k ps ks ix sp := by
  refine ⟨f, fd, g, F.kp, ok, ?_⟩
  obtain ⟨oc, od, dV, kV, doc, pm, an, cdv, ct, osl, rfl, lk, hcd, hD, hK⟩ := F.ex
  rcases hD with ⟨_, rfl⟩ | ⟨e, _⟩
  · refine ⟨fun s us ws X l1 l2 => ?_, fun r1 r2 => vals_kPick r2 _⟩
    cases us with
    | nil => exact .of_eq (hb kV doc pm an cdv ct ws l2)
    | cons _ _ => cases l1
  · exact absurd rfl e
theorem has_fn {f : Addr} {fd : FuncData} {st : Stmt} (g : mg x = some (.ref f)) (F : FunD K x x (defArgs st) (defBody st) (defScope st) [] [] f fd) (ok : FnOk P w K mg base CX0 k f fd ps sp)
    (hb : ∀ (kV doc pm : Value) (an : Option Addr) (cdv ct : Value) (us : List Value), us.length = ps.length → bindArgs (PySem.W.fnOf x x (defArgs st) (defBody st) (defScope st) .none kV doc pm an cdv ct) ⟨us, []⟩ = pure (ps.zip us)) :
    Has P w K mg base x k ps sp := ⟨f, fd, g, F.kp, ok, F.bindsN hb⟩
end
section
variable {X : Cx} {k : Nat} {ps ks : List Str} {ix : List Nat} {sp : Sp} {x : Str} {p pos : Pos} {kws : List Keyword} {tk : TA}
theorem pe_hasKw (h : HasKw X.prog X.w X.K X.mg X.base x k ps ks ix sp) (hr : Room k X.A) (hg : Gl X x) (hkw : PK X kws tk)
    (hall : (backToKw pos (keywordEach kws X.env)).all (·.1.isSome) = true := by rfl) (hks : (backToKw pos (keywordEach kws X.env)).filterMap (·.1) = ks := by rfl)
    (hdb : (x == ("__debug__" : Str)) = false := by decide)
    (hpl : ((backTo pos (starEach [] X.env)).any (·.1) || (backToKw pos (keywordEach kws X.env)).any (·.1.isNone)) = false := by rfl) :
    PE X (.Call (.Name x p) [] kws pos) (fun σ H Q => tk σ H fun zs H2 => zs.length = ks.length ∧ sp (kPick ix zs) H2 Q E0) := by
  obtain ⟨f, fd, h1, h2, h3, hb⟩ := h
  refine ⟨fun pins s σ H Q I h => ?_⟩
  refine wpAny_Call_Name_kw (ld_glob I hg h1 ?_ hdb)
  refine PySem.W.callWith_KW0 (first := []) (h₀ := X.base) I.ok.mod.kin h2 hall ?_ hpl
  refine thn (hkw.run pos pins s σ H _ I h) fun ws s2 ⟨zs, H2, I2, rz, lz, q2⟩ => ⟨I2.kIn, ?_⟩
  rw [hks]
  exact run_fnN h3 hr hb pass0 I2 .nil rz rfl lz q2
end
end HL

namespace HL
open PySem PySem.Spec PyProof.Rows L2

def top (i : Nat) : Stmt := PySem.Challenge.pw_heldlives_k33_lacking_and_wrong_stands.main.body.getD i (.Pass ⟨0, 0, 0, 0⟩)
abbrev s_is_one_of : Stmt := top 15
abbrev N_is_one_of : List Str := ["thing", "words"]
theorem sc_is_one_of : FnScope N_is_one_of ["thing", "words"] (defScope s_is_one_of) := ⟨rfl, rfl, rfl, by decide +kernel, rfl, by decide +kernel, by decide +kernel⟩
abbrev s_are_bars : Stmt := top 16
abbrev N_are_bars : List Str := ["thing", "word"]
theorem sc_are_bars : FnScope N_are_bars ["thing"] (defScope s_are_bars) := ⟨rfl, rfl, rfl, by decide +kernel, rfl, by decide +kernel, by decide +kernel⟩
abbrev s_need_field : Stmt := top 17
abbrev N_need_field : List Str := ["field", "thing", "words"]
theorem sc_need_field : FnScope N_need_field ["field", "thing", "words"] (defScope s_need_field) := ⟨rfl, rfl, rfl, by decide +kernel, rfl, by decide +kernel, by decide +kernel⟩
abbrev s_Book_init : Stmt := inClass (top 18) 0
abbrev N_Book_init : List Str := ["self", "held", "each", "lifted", "ends", "works", "bars"]
theorem sc_Book_init : FnScope N_Book_init ["self", "held", "each", "lifted", "ends", "works", "bars"] (defScope s_Book_init) := ⟨rfl, rfl, rfl, by decide +kernel, rfl, by decide +kernel, by decide +kernel⟩
abbrev s_Book_held : Stmt := inClass (top 18) 1
abbrev N_Book_held : List Str := ["self"]
theorem sc_Book_held : FnScope N_Book_held ["self"] (defScope s_Book_held) := ⟨rfl, rfl, rfl, by decide +kernel, rfl, by decide +kernel, by decide +kernel⟩
abbrev s_Book_each : Stmt := inClass (top 18) 2
abbrev N_Book_each : List Str := ["self"]
theorem sc_Book_each : FnScope N_Book_each ["self"] (defScope s_Book_each) := ⟨rfl, rfl, rfl, by decide +kernel, rfl, by decide +kernel, by decide +kernel⟩
abbrev s_Book_lifted : Stmt := inClass (top 18) 3
abbrev N_Book_lifted : List Str := ["self"]
theorem sc_Book_lifted : FnScope N_Book_lifted ["self"] (defScope s_Book_lifted) := ⟨rfl, rfl, rfl, by decide +kernel, rfl, by decide +kernel, by decide +kernel⟩
abbrev s_Book_ends : Stmt := inClass (top 18) 4
abbrev N_Book_ends : List Str := ["self"]
theorem sc_Book_ends : FnScope N_Book_ends ["self"] (defScope s_Book_ends) := ⟨rfl, rfl, rfl, by decide +kernel, rfl, by decide +kernel, by decide +kernel⟩
abbrev s_Book_works : Stmt := inClass (top 18) 5
abbrev N_Book_works : List Str := ["self"]
theorem sc_Book_works : FnScope N_Book_works ["self"] (defScope s_Book_works) := ⟨rfl, rfl, rfl, by decide +kernel, rfl, by decide +kernel, by decide +kernel⟩
abbrev s_Book_bars : Stmt := inClass (top 18) 6
abbrev N_Book_bars : List Str := ["self"]
theorem sc_Book_bars : FnScope N_Book_bars ["self"] (defScope s_Book_bars) := ⟨rfl, rfl, rfl, by decide +kernel, rfl, by decide +kernel, by decide +kernel⟩
abbrev s_need_book : Stmt := top 19
abbrev N_need_book : List Str := ["book"]
theorem sc_need_book : FnScope N_need_book ["book"] (defScope s_need_book) := ⟨rfl, rfl, rfl, by decide +kernel, rfl, by decide +kernel, by decide +kernel⟩
abbrev s_is_number : Stmt := top 22
abbrev N_is_number : List Str := ["thing"]
theorem sc_is_number : FnScope N_is_number ["thing"] (defScope s_is_number) := ⟨rfl, rfl, rfl, by decide +kernel, rfl, by decide +kernel, by decide +kernel⟩
abbrev s_bar_of : Stmt := top 23
abbrev N_bar_of : List Str := ["life", "way", "wanted_life"]
theorem sc_bar_of : FnScope N_bar_of ["life", "way", "wanted_life"] (defScope s_bar_of) := ⟨rfl, rfl, rfl, by decide +kernel, rfl, by decide +kernel, by decide +kernel⟩
abbrev s_need_depth : Stmt := top 29
abbrev N_need_depth : List Str := ["depth"]
theorem sc_need_depth : FnScope N_need_depth ["depth"] (defScope s_need_depth) := ⟨rfl, rfl, rfl, by decide +kernel, rfl, by decide +kernel, by decide +kernel⟩
abbrev s_need_fault : Stmt := top 30
abbrev N_need_fault : List Str := ["fault"]
theorem sc_need_fault : FnScope N_need_fault ["fault"] (defScope s_need_fault) := ⟨rfl, rfl, rfl, by decide +kernel, rfl, by decide +kernel, by decide +kernel⟩
abbrev s_is_form : Stmt := top 31
abbrev N_is_form : List Str := ["depth", "thing", "life", "level", "made", "common", "past", "rooted"]
theorem sc_is_form : FnScope N_is_form ["depth", "thing"] (defScope s_is_form) := ⟨rfl, rfl, rfl, by decide +kernel, rfl, by decide +kernel, by decide +kernel⟩
abbrev s_need_stand : Stmt := top 32
abbrev N_need_stand : List Str := ["depth", "stand"]
theorem sc_need_stand : FnScope N_need_stand ["depth", "stand"] (defScope s_need_stand) := ⟨rfl, rfl, rfl, by decide +kernel, rfl, by decide +kernel, by decide +kernel⟩
abbrev s_wants_of : Stmt := top 33
abbrev N_wants_of : List Str := ["book", "depth", "life", "found", "way", "wanted"]
theorem sc_wants_of : FnScope N_wants_of ["book", "depth", "life"] (defScope s_wants_of) := ⟨rfl, rfl, rfl, by decide +kernel, rfl, by decide +kernel, by decide +kernel⟩
abbrev s_asked_from : Stmt := top 34
abbrev N_asked_from : List Str := ["book", "depth", "stand", "way"]
theorem sc_asked_from : FnScope N_asked_from ["book", "depth", "stand", "way"] (defScope s_asked_from) := ⟨rfl, rfl, rfl, by decide +kernel, rfl, by decide +kernel, by decide +kernel⟩
abbrev s_lacked : Stmt := top 35
abbrev N_lacked : List Str := ["book", "depth", "stand", "found", "want"]
theorem sc_lacked : FnScope N_lacked ["book", "depth", "stand"] (defScope s_lacked) := ⟨rfl, rfl, rfl, by decide +kernel, rfl, by decide +kernel, by decide +kernel⟩
abbrev s_lacks : Stmt := top 36
abbrev N_lacks : List Str := ["book", "depth", "stand"]
theorem sc_lacks : FnScope N_lacks ["book", "depth", "stand"] (defScope s_lacks) := ⟨rfl, rfl, rfl, by decide +kernel, rfl, by decide +kernel, by decide +kernel⟩
abbrev s_is_far : Stmt := top 37
abbrev N_is_far : List Str := ["stand"]
theorem sc_is_far : FnScope N_is_far ["stand"] (defScope s_is_far) := ⟨rfl, rfl, rfl, by decide +kernel, rfl, by decide +kernel, by decide +kernel⟩
abbrev s_is_bad : Stmt := top 38
abbrev N_is_bad : List Str := ["book", "depth", "fault", "stand", "life", "level", "made", "common", "past", "rooted"]
theorem sc_is_bad : FnScope N_is_bad ["book", "depth", "fault", "stand"] (defScope s_is_bad) := ⟨rfl, rfl, rfl, by decide +kernel, rfl, by decide +kernel, by decide +kernel⟩
abbrev s_is_wrong : Stmt := top 39
abbrev N_is_wrong : List Str := ["book", "depth", "fault", "stand"]
theorem sc_is_wrong : FnScope N_is_wrong ["book", "depth", "fault", "stand"] (defScope s_is_wrong) := ⟨rfl, rfl, rfl, by decide +kernel, rfl, by decide +kernel, by decide +kernel⟩
abbrev s_law_begun : Stmt := top 41
abbrev N_law_begun : List Str := ["_law_script", "_law_wide", "_law_cell"]
theorem sc_law_begun : FnScope N_law_begun ["_law_script"] (defScope s_law_begun) := ⟨rfl, rfl, rfl, by decide +kernel, rfl, by decide +kernel, by decide +kernel⟩
abbrev s_law_mixed : Stmt := top 42
abbrev N_law_mixed : List Str := ["_law_draw", "_law_turn", "_law_found", "_law_prime", "_law_blend", "_law_cell"]
theorem sc_law_mixed : FnScope N_law_mixed ["_law_draw"] (defScope s_law_mixed) := ⟨rfl, rfl, rfl, by decide +kernel, rfl, by decide +kernel, by decide +kernel⟩
abbrev s_law_take : Stmt := top 43
abbrev N_law_take : List Str := ["_law_draw", "_law_size", "_law_found"]
theorem sc_law_take : FnScope N_law_take ["_law_draw", "_law_size"] (defScope s_law_take) := ⟨rfl, rfl, rfl, by decide +kernel, rfl, by decide +kernel, by decide +kernel⟩
abbrev s_law_pick : Stmt := top 44
abbrev N_law_pick : List Str := ["_law_draw", "_law_some"]
theorem sc_law_pick : FnScope N_law_pick ["_law_draw", "_law_some"] (defScope s_law_pick) := ⟨rfl, rfl, rfl, by decide +kernel, rfl, by decide +kernel, by decide +kernel⟩
abbrev s_law_shuffled : Stmt := top 45
abbrev N_law_shuffled : List Str := ["_law_draw", "_law_some", "_law_left", "_law_found"]
theorem sc_law_shuffled : FnScope N_law_shuffled ["_law_draw", "_law_some"] (defScope s_law_shuffled) := ⟨rfl, rfl, rfl, by decide +kernel, rfl, by decide +kernel, by decide +kernel⟩
abbrev s_law_is_number : Stmt := top 46
abbrev N_law_is_number : List Str := ["_law_thing"]
theorem sc_law_is_number : FnScope N_law_is_number ["_law_thing"] (defScope s_law_is_number) := ⟨rfl, rfl, rfl, by decide +kernel, rfl, by decide +kernel, by decide +kernel⟩
abbrev s_law_drawn_fields : Stmt := top 47
abbrev N_law_drawn_fields : List Str := ["_law_draw", "_law_found"]
theorem sc_law_drawn_fields : FnScope N_law_drawn_fields ["_law_draw"] (defScope s_law_drawn_fields) := ⟨rfl, rfl, rfl, by decide +kernel, rfl, by decide +kernel, by decide +kernel⟩
abbrev s_law_all_bars : Stmt := top 48
abbrev N_law_all_bars : List Str := []
theorem sc_law_all_bars : FnScope N_law_all_bars [] (defScope s_law_all_bars) := ⟨rfl, rfl, rfl, by decide +kernel, rfl, by decide +kernel, by decide +kernel⟩
abbrev s_law_book : Stmt := top 49
abbrev N_law_book : List Str := ["_law_fields", "_law_sets"]
theorem sc_law_book : FnScope N_law_book ["_law_fields"] (defScope s_law_book) := ⟨rfl, rfl, rfl, by decide +kernel, rfl, by decide +kernel, by decide +kernel⟩
abbrev s_law_bar : Stmt := top 50
abbrev N_law_bar : List Str := ["_law_life", "_law_way", "_law_wanted"]
theorem sc_law_bar : FnScope N_law_bar ["_law_life", "_law_way", "_law_wanted"] (defScope s_law_bar) := ⟨rfl, rfl, rfl, by decide +kernel, rfl, by decide +kernel, by decide +kernel⟩
abbrev s_law_barred : Stmt := top 51
abbrev N_law_barred : List Str := ["_law_draw", "_law_fields", "_law_found", "_law_likely", "_law_word"]
theorem sc_law_barred : FnScope N_law_barred ["_law_draw", "_law_fields"] (defScope s_law_barred) := ⟨rfl, rfl, rfl, by decide +kernel, rfl, by decide +kernel, by decide +kernel⟩
abbrev s_law_level_asked : Stmt := top 52
abbrev N_law_level_asked : List Str := ["_law_fields", "_law_deep", "_law_own", "_law_way"]
theorem sc_law_level_asked : FnScope N_law_level_asked ["_law_fields", "_law_deep", "_law_own", "_law_way"] (defScope s_law_level_asked) := ⟨rfl, rfl, rfl, by decide +kernel, rfl, by decide +kernel, by decide +kernel⟩
abbrev s_law_wants_let : Stmt := top 53
abbrev N_law_wants_let : List Str := ["_law_fields", "_law_deep", "_law_life", "_law_found", "_law_way", "_law_wanted"]
theorem sc_law_wants_let : FnScope N_law_wants_let ["_law_fields", "_law_deep", "_law_life"] (defScope s_law_wants_let) := ⟨rfl, rfl, rfl, by decide +kernel, rfl, by decide +kernel, by decide +kernel⟩
abbrev s_law_lacked : Stmt := top 54
abbrev N_law_lacked : List Str := ["_law_fields", "_law_deep", "_law_own", "_law_found", "_law_way", "_law_wanted"]
theorem sc_law_lacked : FnScope N_law_lacked ["_law_fields", "_law_deep", "_law_own"] (defScope s_law_lacked) := ⟨rfl, rfl, rfl, by decide +kernel, rfl, by decide +kernel, by decide +kernel⟩
abbrev s_law_bad : Stmt := top 55
abbrev N_law_bad : List Str := ["_law_fields", "_law_deep", "_law_word", "_law_own", "_law_life", "_law_level", "_law_made", "_law_near", "_law_past", "_law_rooted", "_law_is_beyond", "_law_is_late"]
theorem sc_law_bad : FnScope N_law_bad ["_law_fields", "_law_deep", "_law_word", "_law_own"] (defScope s_law_bad) := ⟨rfl, rfl, rfl, by decide +kernel, rfl, by decide +kernel, by decide +kernel⟩
abbrev s_law_four : Stmt := top 56
abbrev N_law_four : List Str := []
theorem sc_law_four : FnScope N_law_four [] (defScope s_law_four) := ⟨rfl, rfl, rfl, by decide +kernel, rfl, by decide +kernel, by decide +kernel⟩
abbrev s_law_any_one : Stmt := top 57
abbrev N_law_any_one : List Str := ["_law_draw", "_law_deep", "_law_life", "_law_level", "_law_made", "_law_kept"]
theorem sc_law_any_one : FnScope N_law_any_one ["_law_draw", "_law_deep"] (defScope s_law_any_one) := ⟨rfl, rfl, rfl, by decide +kernel, rfl, by decide +kernel, by decide +kernel⟩
abbrev s_law_is_form : Stmt := top 58
abbrev N_law_is_form : List Str := ["_law_deep", "_law_some", "_law_life", "_law_level", "_law_made", "_law_near", "_law_past", "_law_rooted", "_law_one"]
theorem sc_law_is_form : FnScope N_law_is_form ["_law_deep", "_law_some"] (defScope s_law_is_form) := ⟨rfl, rfl, rfl, by decide +kernel, rfl, by decide +kernel, by decide +kernel⟩
abbrev s_law_other_fields : Stmt := top 59
abbrev N_law_other_fields : List Str := ["_law_draw", "_law_fields", "_law_word", "_law_found", "_law_some", "_law_other"]
theorem sc_law_other_fields : FnScope N_law_other_fields ["_law_draw", "_law_fields"] (defScope s_law_other_fields) := ⟨rfl, rfl, rfl, by decide +kernel, rfl, by decide +kernel, by decide +kernel⟩
abbrev s_law_at_all_depths : Stmt := top 60
abbrev N_law_at_all_depths : List Str := ["_law_draw", "_law_fields", "_law_mine", "_law_own", "_law_k", "_law_told", "_law_due", "_law_word"]
theorem sc_law_at_all_depths : FnScope N_law_at_all_depths ["_law_draw", "_law_fields", "_law_mine", "_law_own"] (defScope s_law_at_all_depths) := ⟨rfl, rfl, rfl, by decide +kernel, rfl, by decide +kernel, by decide +kernel⟩
abbrev s_law_by_two_books : Stmt := top 61
abbrev N_law_by_two_books : List Str := ["_law_draw", "_law_fields", "_law_deep", "_law_own", "_law_far", "_law_one", "_law_mine", "_law_told", "_law_due", "_law_word"]
theorem sc_law_by_two_books : FnScope N_law_by_two_books ["_law_draw", "_law_fields", "_law_deep", "_law_own"] (defScope s_law_by_two_books) := ⟨rfl, rfl, rfl, by decide +kernel, rfl, by decide +kernel, by decide +kernel⟩
abbrev s_law : Stmt := top 62
abbrev N_law : List Str := ["_law_script", "_law_draw", "_law_turn", "_law_fields", "_law_deep", "_law_other", "_law_mine", "_law_near", "_law_lap", "_law_own", "_law_due", "_law_word", "_law_told"]
theorem sc_law : FnScope N_law ["_law_script"] (defScope s_law) := ⟨rfl, rfl, rfl, by decide +kernel, rfl, by decide +kernel, by decide +kernel⟩
def dd_is_one_of : DefA := ⟨gAt "is_one_of", "is_one_of", "is_one_of", defArgs s_is_one_of, defBody s_is_one_of, defScope s_is_one_of, [], []⟩
def dd_are_bars : DefA := ⟨gAt "are_bars", "are_bars", "are_bars", defArgs s_are_bars, defBody s_are_bars, defScope s_are_bars, [], []⟩
def dd_need_field : DefA := ⟨gAt "need_field", "need_field", "need_field", defArgs s_need_field, defBody s_need_field, defScope s_need_field, [], []⟩
def dd_Book_init : DefA := ⟨mAt "Book" "__init__", "__init__", "Book.__init__", defArgs s_Book_init, defBody s_Book_init, defScope s_Book_init, [], [("held", .str "home"), ("each", .str "now"), ("lifted", .str "nothing"), ("ends", .str "scope"), ("works", .str "own"), ("bars", .adr (kwAt (mAt "Book" "__init__") "bars"))]⟩
def dd_Book_held : DefA := ⟨pAt "Book" "held", "held", "Book.held", defArgs s_Book_held, defBody s_Book_held, defScope s_Book_held, [], []⟩
def dd_Book_each : DefA := ⟨pAt "Book" "each", "each", "Book.each", defArgs s_Book_each, defBody s_Book_each, defScope s_Book_each, [], []⟩
def dd_Book_lifted : DefA := ⟨pAt "Book" "lifted", "lifted", "Book.lifted", defArgs s_Book_lifted, defBody s_Book_lifted, defScope s_Book_lifted, [], []⟩
def dd_Book_ends : DefA := ⟨pAt "Book" "ends", "ends", "Book.ends", defArgs s_Book_ends, defBody s_Book_ends, defScope s_Book_ends, [], []⟩
def dd_Book_works : DefA := ⟨pAt "Book" "works", "works", "Book.works", defArgs s_Book_works, defBody s_Book_works, defScope s_Book_works, [], []⟩
def dd_Book_bars : DefA := ⟨pAt "Book" "bars", "bars", "Book.bars", defArgs s_Book_bars, defBody s_Book_bars, defScope s_Book_bars, [], []⟩
def dd_need_book : DefA := ⟨gAt "need_book", "need_book", "need_book", defArgs s_need_book, defBody s_need_book, defScope s_need_book, [], []⟩
def dd_is_number : DefA := ⟨gAt "is_number", "is_number", "is_number", defArgs s_is_number, defBody s_is_number, defScope s_is_number, [], []⟩
def dd_bar_of : DefA := ⟨gAt "bar_of", "bar_of", "bar_of", defArgs s_bar_of, defBody s_bar_of, defScope s_bar_of, [], []⟩
def dd_need_depth : DefA := ⟨gAt "need_depth", "need_depth", "need_depth", defArgs s_need_depth, defBody s_need_depth, defScope s_need_depth, [], []⟩
def dd_need_fault : DefA := ⟨gAt "need_fault", "need_fault", "need_fault", defArgs s_need_fault, defBody s_need_fault, defScope s_need_fault, [], []⟩
def dd_is_form : DefA := ⟨gAt "is_form", "is_form", "is_form", defArgs s_is_form, defBody s_is_form, defScope s_is_form, [], []⟩
def dd_need_stand : DefA := ⟨gAt "need_stand", "need_stand", "need_stand", defArgs s_need_stand, defBody s_need_stand, defScope s_need_stand, [], []⟩
def dd_wants_of : DefA := ⟨gAt "wants_of", "wants_of", "wants_of", defArgs s_wants_of, defBody s_wants_of, defScope s_wants_of, [], []⟩
def dd_asked_from : DefA := ⟨gAt "asked_from", "asked_from", "asked_from", defArgs s_asked_from, defBody s_asked_from, defScope s_asked_from, [], []⟩
def dd_lacked : DefA := ⟨gAt "lacked", "lacked", "lacked", defArgs s_lacked, defBody s_lacked, defScope s_lacked, [], []⟩
def dd_lacks : DefA := ⟨gAt "lacks", "lacks", "lacks", defArgs s_lacks, defBody s_lacks, defScope s_lacks, [], []⟩
def dd_is_far : DefA := ⟨gAt "is_far", "is_far", "is_far", defArgs s_is_far, defBody s_is_far, defScope s_is_far, [], []⟩
def dd_is_bad : DefA := ⟨gAt "is_bad", "is_bad", "is_bad", defArgs s_is_bad, defBody s_is_bad, defScope s_is_bad, [], []⟩
def dd_is_wrong : DefA := ⟨gAt "is_wrong", "is_wrong", "is_wrong", defArgs s_is_wrong, defBody s_is_wrong, defScope s_is_wrong, [], []⟩
def dd_law_begun : DefA := ⟨gAt "_law_begun", "_law_begun", "_law_begun", defArgs s_law_begun, defBody s_law_begun, defScope s_law_begun, [], []⟩
def dd_law_mixed : DefA := ⟨gAt "_law_mixed", "_law_mixed", "_law_mixed", defArgs s_law_mixed, defBody s_law_mixed, defScope s_law_mixed, [], []⟩
def dd_law_take : DefA := ⟨gAt "_law_take", "_law_take", "_law_take", defArgs s_law_take, defBody s_law_take, defScope s_law_take, [], []⟩
def dd_law_pick : DefA := ⟨gAt "_law_pick", "_law_pick", "_law_pick", defArgs s_law_pick, defBody s_law_pick, defScope s_law_pick, [], []⟩
def dd_law_shuffled : DefA := ⟨gAt "_law_shuffled", "_law_shuffled", "_law_shuffled", defArgs s_law_shuffled, defBody s_law_shuffled, defScope s_law_shuffled, [], []⟩
def dd_law_is_number : DefA := ⟨gAt "_law_is_number", "_law_is_number", "_law_is_number", defArgs s_law_is_number, defBody s_law_is_number, defScope s_law_is_number, [], []⟩
def dd_law_drawn_fields : DefA := ⟨gAt "_law_drawn_fields", "_law_drawn_fields", "_law_drawn_fields", defArgs s_law_drawn_fields, defBody s_law_drawn_fields, defScope s_law_drawn_fields, [], []⟩
def dd_law_all_bars : DefA := ⟨gAt "_law_all_bars", "_law_all_bars", "_law_all_bars", defArgs s_law_all_bars, defBody s_law_all_bars, defScope s_law_all_bars, [], []⟩
def dd_law_book : DefA := ⟨gAt "_law_book", "_law_book", "_law_book", defArgs s_law_book, defBody s_law_book, defScope s_law_book, [], []⟩
def dd_law_bar : DefA := ⟨gAt "_law_bar", "_law_bar", "_law_bar", defArgs s_law_bar, defBody s_law_bar, defScope s_law_bar, [], []⟩
def dd_law_barred : DefA := ⟨gAt "_law_barred", "_law_barred", "_law_barred", defArgs s_law_barred, defBody s_law_barred, defScope s_law_barred, [], []⟩
def dd_law_level_asked : DefA := ⟨gAt "_law_level_asked", "_law_level_asked", "_law_level_asked", defArgs s_law_level_asked, defBody s_law_level_asked, defScope s_law_level_asked, [], []⟩
def dd_law_wants_let : DefA := ⟨gAt "_law_wants_let", "_law_wants_let", "_law_wants_let", defArgs s_law_wants_let, defBody s_law_wants_let, defScope s_law_wants_let, [], []⟩
def dd_law_lacked : DefA := ⟨gAt "_law_lacked", "_law_lacked", "_law_lacked", defArgs s_law_lacked, defBody s_law_lacked, defScope s_law_lacked, [], []⟩
def dd_law_bad : DefA := ⟨gAt "_law_bad", "_law_bad", "_law_bad", defArgs s_law_bad, defBody s_law_bad, defScope s_law_bad, [], []⟩
def dd_law_four : DefA := ⟨gAt "_law_four", "_law_four", "_law_four", defArgs s_law_four, defBody s_law_four, defScope s_law_four, [], []⟩
def dd_law_any_one : DefA := ⟨gAt "_law_any_one", "_law_any_one", "_law_any_one", defArgs s_law_any_one, defBody s_law_any_one, defScope s_law_any_one, [], []⟩
def dd_law_is_form : DefA := ⟨gAt "_law_is_form", "_law_is_form", "_law_is_form", defArgs s_law_is_form, defBody s_law_is_form, defScope s_law_is_form, [], []⟩
def dd_law_other_fields : DefA := ⟨gAt "_law_other_fields", "_law_other_fields", "_law_other_fields", defArgs s_law_other_fields, defBody s_law_other_fields, defScope s_law_other_fields, [], []⟩
def dd_law_at_all_depths : DefA := ⟨gAt "_law_at_all_depths", "_law_at_all_depths", "_law_at_all_depths", defArgs s_law_at_all_depths, defBody s_law_at_all_depths, defScope s_law_at_all_depths, [], []⟩
def dd_law_by_two_books : DefA := ⟨gAt "_law_by_two_books", "_law_by_two_books", "_law_by_two_books", defArgs s_law_by_two_books, defBody s_law_by_two_books, defScope s_law_by_two_books, [], []⟩
def dd_law : DefA := ⟨gAt "law", "law", "law", defArgs s_law, defBody s_law, defScope s_law, [], []⟩
def fn : List DefA := [dd_is_one_of, dd_are_bars, dd_need_field, dd_Book_init, dd_Book_held, dd_Book_each, dd_Book_lifted, dd_Book_ends, dd_Book_works, dd_Book_bars, dd_need_book, dd_is_number, dd_bar_of, dd_need_depth, dd_need_fault, dd_is_form, dd_need_stand, dd_wants_of, dd_asked_from, dd_lacked, dd_lacks, dd_is_far, dd_is_bad, dd_is_wrong, dd_law_begun, dd_law_mixed, dd_law_take, dd_law_pick, dd_law_shuffled, dd_law_is_number, dd_law_drawn_fields, dd_law_all_bars, dd_law_book, dd_law_bar, dd_law_barred, dd_law_level_asked, dd_law_wants_let, dd_law_lacked, dd_law_bad, dd_law_four, dd_law_any_one, dd_law_is_form, dd_law_other_fields, dd_law_at_all_depths, dd_law_by_two_books, dd_law]
def fa : List He.Fa := ([.free "abs", .free "all", .free "dict", .free "int", .free "isinstance", .free "len", .free "list", .free "min", .free "range", .free "repr", .free "set", .free "sorted", .free "str", .free "tuple", .free "bool", .glo "_wall", .glo "LifeError", .glo "BadBook", .glo "BadDepth", .glo "BadFault", .glo "BadStand", .glo "BARS", .glo "FAULTS", .glo "HELD", .glo "EACH", .glo "LIFTED", .glo "ENDS", .glo "WORKS", .glo "is_one_of", .glo "are_bars"] : List He.Fa) ++ ([.glo "need_field", .glo "Book", .glo "need_book", .int "USE" (-1), .glo "is_number", .glo "bar_of", .int "MOST_DEPTH" 3, .str "OWN" "own", .str "OTHER" "other", .glo "WAYS", .glo "need_depth", .glo "need_fault", .glo "is_form", .glo "need_stand", .glo "wants_of", .glo "asked_from", .glo "lacked", .glo "lacks", .glo "is_far", .glo "is_bad", .glo "is_wrong", .glo "_law_begun", .glo "_law_mixed", .glo "_law_take", .glo "_law_pick", .glo "_law_shuffled", .glo "_law_is_number", .glo "_law_drawn_fields", .glo "_law_all_bars", .glo "_law_book"] : List He.Fa) ++ ([.glo "_law_bar", .glo "_law_barred", .glo "_law_level_asked", .glo "_law_wants_let", .glo "_law_lacked", .glo "_law_bad", .glo "_law_four", .glo "_law_any_one", .glo "_law_is_form", .glo "_law_other_fields", .glo "_law_at_all_depths", .glo "_law_by_two_books", .glo "law", .cls "Book", .noat "Book" "b_held", .noat "Book" "b_each", .noat "Book" "b_lifted", .noat "Book" "b_ends", .noat "Book" "b_works", .noat "Book" "b_bars", .mkr "Book", .meth "Book" "choices", .meth "Book" "with_bars"] : List He.Fa)
def exB (K : PySem.W.Frag) : Bool := He.tupB K "BARS" ([.str "each-shorter", .str "each-use", .str "held-shorter", .str "held-use", .str "use-each", .str "use-held"] : List He.Dv) && (He.tupB K "FAULTS" ([.str "ended", .str "left", .str "missing", .str "strayed"] : List He.Dv) && (He.tupB K "HELD" ([.str "home", .str "now"] : List He.Dv) && (He.tupB K "EACH" ([.str "now", .str "program"] : List He.Dv) && (He.tupB K "LIFTED" ([.str "nothing", .str "kept"] : List He.Dv) && (He.tupB K "ENDS" ([.str "holder", .str "never", .str "scope"] : List He.Dv) && (He.tupB K "WORKS" ([.str "own", .str "same", .str "wait"] : List He.Dv) && (He.tupB K "WAYS" ([.str "each", .str "held"] : List He.Dv) && (propB K "Book" "held" && (propB K "Book" "each" && (propB K "Book" "lifted" && (propB K "Book" "ends" && (propB K "Book" "works" && (propB K "Book" "bars" && (eqB K "Book" && (nfB K "Book" ["NoneType", "bool", "int", "str", "list", "tuple", "dict"] && (insB K "Book" ["NoneType", "bool", "int", "str", "list", "tuple", "dict"] && (tupAB K (kwAt (mAt "Book" "__init__") "bars" K) [])))))))))))))))))
def tabs : List He.Tab := []
def lamd : List He.Defn := []
def Tx (K : PySem.W.Frag) (mg : Str → Option Value) : Prop := ∃ (w : World) (h : Heap), SaysH fa tabs lamd exB fn w h K ∧ K.In h ∧ h.Ns mainGlobals mg
section
variable {K : PySem.W.Frag} {mg : Str → Option Value}
theorem tx_more (T : Tx K mg) : exB K = true := by
  obtain ⟨w, h, c, X, G⟩ := T
  exact c.more
theorem m_abs (T : Tx K mg) : mg "abs" = none := by
  obtain ⟨w, h, c, X, G⟩ := T
  exact He.free_ok X G (c.x.t.d.fact 0 (f := .free "abs") rfl)
theorem m_all (T : Tx K mg) : mg "all" = none := by
  obtain ⟨w, h, c, X, G⟩ := T
  exact He.free_ok X G (c.x.t.d.fact 1 (f := .free "all") rfl)
theorem m_dict (T : Tx K mg) : mg "dict" = none := by
  obtain ⟨w, h, c, X, G⟩ := T
  exact He.free_ok X G (c.x.t.d.fact 2 (f := .free "dict") rfl)
theorem m_int (T : Tx K mg) : mg "int" = none := by
  obtain ⟨w, h, c, X, G⟩ := T
  exact He.free_ok X G (c.x.t.d.fact 3 (f := .free "int") rfl)
theorem m_isinstance (T : Tx K mg) : mg "isinstance" = none := by
  obtain ⟨w, h, c, X, G⟩ := T
  exact He.free_ok X G (c.x.t.d.fact 4 (f := .free "isinstance") rfl)
theorem m_len (T : Tx K mg) : mg "len" = none := by
  obtain ⟨w, h, c, X, G⟩ := T
  exact He.free_ok X G (c.x.t.d.fact 5 (f := .free "len") rfl)
theorem m_list (T : Tx K mg) : mg "list" = none := by
  obtain ⟨w, h, c, X, G⟩ := T
  exact He.free_ok X G (c.x.t.d.fact 6 (f := .free "list") rfl)
theorem m_min (T : Tx K mg) : mg "min" = none := by
  obtain ⟨w, h, c, X, G⟩ := T
  exact He.free_ok X G (c.x.t.d.fact 7 (f := .free "min") rfl)
theorem m_range (T : Tx K mg) : mg "range" = none := by
  obtain ⟨w, h, c, X, G⟩ := T
  exact He.free_ok X G (c.x.t.d.fact 8 (f := .free "range") rfl)
theorem m_repr (T : Tx K mg) : mg "repr" = none := by
  obtain ⟨w, h, c, X, G⟩ := T
  exact He.free_ok X G (c.x.t.d.fact 9 (f := .free "repr") rfl)
theorem m_set (T : Tx K mg) : mg "set" = none := by
  obtain ⟨w, h, c, X, G⟩ := T
  exact He.free_ok X G (c.x.t.d.fact 10 (f := .free "set") rfl)
theorem m_sorted (T : Tx K mg) : mg "sorted" = none := by
  obtain ⟨w, h, c, X, G⟩ := T
  exact He.free_ok X G (c.x.t.d.fact 11 (f := .free "sorted") rfl)
theorem m_str (T : Tx K mg) : mg "str" = none := by
  obtain ⟨w, h, c, X, G⟩ := T
  exact He.free_ok X G (c.x.t.d.fact 12 (f := .free "str") rfl)
theorem m_tuple (T : Tx K mg) : mg "tuple" = none := by
  obtain ⟨w, h, c, X, G⟩ := T
  exact He.free_ok X G (c.x.t.d.fact 13 (f := .free "tuple") rfl)
theorem m_bool (T : Tx K mg) : mg "bool" = none := by
  obtain ⟨w, h, c, X, G⟩ := T
  exact He.free_ok X G (c.x.t.d.fact 14 (f := .free "bool") rfl)
theorem g_wall (T : Tx K mg) : mg "_wall" = some (.ref (He.ga K "_wall")) := by
  obtain ⟨w, h, c, X, G⟩ := T
  exact He.glo_ok X G (c.x.t.d.fact 15 (f := .glo "_wall") rfl)
theorem g_LifeError (T : Tx K mg) : mg "LifeError" = some (.ref (He.ga K "LifeError")) := by
  obtain ⟨w, h, c, X, G⟩ := T
  exact He.glo_ok X G (c.x.t.d.fact 16 (f := .glo "LifeError") rfl)
theorem g_BadBook (T : Tx K mg) : mg "BadBook" = some (.ref (He.ga K "BadBook")) := by
  obtain ⟨w, h, c, X, G⟩ := T
  exact He.glo_ok X G (c.x.t.d.fact 17 (f := .glo "BadBook") rfl)
theorem g_BadDepth (T : Tx K mg) : mg "BadDepth" = some (.ref (He.ga K "BadDepth")) := by
  obtain ⟨w, h, c, X, G⟩ := T
  exact He.glo_ok X G (c.x.t.d.fact 18 (f := .glo "BadDepth") rfl)
theorem g_BadFault (T : Tx K mg) : mg "BadFault" = some (.ref (He.ga K "BadFault")) := by
  obtain ⟨w, h, c, X, G⟩ := T
  exact He.glo_ok X G (c.x.t.d.fact 19 (f := .glo "BadFault") rfl)
theorem g_BadStand (T : Tx K mg) : mg "BadStand" = some (.ref (He.ga K "BadStand")) := by
  obtain ⟨w, h, c, X, G⟩ := T
  exact He.glo_ok X G (c.x.t.d.fact 20 (f := .glo "BadStand") rfl)
theorem g_BARS (T : Tx K mg) : mg "BARS" = some (.ref (He.ga K "BARS")) := by
  obtain ⟨w, h, c, X, G⟩ := T
  exact He.glo_ok X G (c.x.t.d.fact 21 (f := .glo "BARS") rfl)
theorem g_FAULTS (T : Tx K mg) : mg "FAULTS" = some (.ref (He.ga K "FAULTS")) := by
  obtain ⟨w, h, c, X, G⟩ := T
  exact He.glo_ok X G (c.x.t.d.fact 22 (f := .glo "FAULTS") rfl)
theorem g_HELD (T : Tx K mg) : mg "HELD" = some (.ref (He.ga K "HELD")) := by
  obtain ⟨w, h, c, X, G⟩ := T
  exact He.glo_ok X G (c.x.t.d.fact 23 (f := .glo "HELD") rfl)
theorem g_EACH (T : Tx K mg) : mg "EACH" = some (.ref (He.ga K "EACH")) := by
  obtain ⟨w, h, c, X, G⟩ := T
  exact He.glo_ok X G (c.x.t.d.fact 24 (f := .glo "EACH") rfl)
theorem g_LIFTED (T : Tx K mg) : mg "LIFTED" = some (.ref (He.ga K "LIFTED")) := by
  obtain ⟨w, h, c, X, G⟩ := T
  exact He.glo_ok X G (c.x.t.d.fact 25 (f := .glo "LIFTED") rfl)
theorem g_ENDS (T : Tx K mg) : mg "ENDS" = some (.ref (He.ga K "ENDS")) := by
  obtain ⟨w, h, c, X, G⟩ := T
  exact He.glo_ok X G (c.x.t.d.fact 26 (f := .glo "ENDS") rfl)
theorem g_WORKS (T : Tx K mg) : mg "WORKS" = some (.ref (He.ga K "WORKS")) := by
  obtain ⟨w, h, c, X, G⟩ := T
  exact He.glo_ok X G (c.x.t.d.fact 27 (f := .glo "WORKS") rfl)
theorem g_is_one_of (T : Tx K mg) : mg "is_one_of" = some (.ref (He.ga K "is_one_of")) := by
  obtain ⟨w, h, c, X, G⟩ := T
  exact He.glo_ok X G (c.x.t.d.fact 28 (f := .glo "is_one_of") rfl)
theorem g_are_bars (T : Tx K mg) : mg "are_bars" = some (.ref (He.ga K "are_bars")) := by
  obtain ⟨w, h, c, X, G⟩ := T
  exact He.glo_ok X G (c.x.t.d.fact 29 (f := .glo "are_bars") rfl)
theorem g_need_field (T : Tx K mg) : mg "need_field" = some (.ref (He.ga K "need_field")) := by
  obtain ⟨w, h, c, X, G⟩ := T
  exact He.glo_ok X G (c.x.t.d.fact 30 (f := .glo "need_field") rfl)
theorem g_Book (T : Tx K mg) : mg "Book" = some (.ref (He.ga K "Book")) := by
  obtain ⟨w, h, c, X, G⟩ := T
  exact He.glo_ok X G (c.x.t.d.fact 31 (f := .glo "Book") rfl)
theorem g_need_book (T : Tx K mg) : mg "need_book" = some (.ref (He.ga K "need_book")) := by
  obtain ⟨w, h, c, X, G⟩ := T
  exact He.glo_ok X G (c.x.t.d.fact 32 (f := .glo "need_book") rfl)
theorem k_USE (T : Tx K mg) : ∃ u, mg "USE" = some u ∧ RelV (.int (-1)) u := by
  obtain ⟨w, h, c, X, G⟩ := T
  obtain ⟨t, e⟩ := He.int_ok X G (c.x.t.d.fact 33 (f := .int "USE" (-1)) rfl)
  exact ⟨_, e, t, rfl⟩
theorem g_is_number (T : Tx K mg) : mg "is_number" = some (.ref (He.ga K "is_number")) := by
  obtain ⟨w, h, c, X, G⟩ := T
  exact He.glo_ok X G (c.x.t.d.fact 34 (f := .glo "is_number") rfl)
theorem g_bar_of (T : Tx K mg) : mg "bar_of" = some (.ref (He.ga K "bar_of")) := by
  obtain ⟨w, h, c, X, G⟩ := T
  exact He.glo_ok X G (c.x.t.d.fact 35 (f := .glo "bar_of") rfl)
theorem k_MOST_DEPTH (T : Tx K mg) : ∃ u, mg "MOST_DEPTH" = some u ∧ RelV (.int 3) u := by
  obtain ⟨w, h, c, X, G⟩ := T
  obtain ⟨t, e⟩ := He.int_ok X G (c.x.t.d.fact 36 (f := .int "MOST_DEPTH" 3) rfl)
  exact ⟨_, e, t, rfl⟩
theorem k_OWN (T : Tx K mg) : ∃ u, mg "OWN" = some u ∧ RelV (.str "own") u := by
  obtain ⟨w, h, c, X, G⟩ := T
  obtain ⟨t, e⟩ := He.str_ok X G (c.x.t.d.fact 37 (f := .str "OWN" "own") rfl)
  exact ⟨_, e, t, rfl⟩
theorem k_OTHER (T : Tx K mg) : ∃ u, mg "OTHER" = some u ∧ RelV (.str "other") u := by
  obtain ⟨w, h, c, X, G⟩ := T
  obtain ⟨t, e⟩ := He.str_ok X G (c.x.t.d.fact 38 (f := .str "OTHER" "other") rfl)
  exact ⟨_, e, t, rfl⟩
theorem g_WAYS (T : Tx K mg) : mg "WAYS" = some (.ref (He.ga K "WAYS")) := by
  obtain ⟨w, h, c, X, G⟩ := T
  exact He.glo_ok X G (c.x.t.d.fact 39 (f := .glo "WAYS") rfl)
theorem g_need_depth (T : Tx K mg) : mg "need_depth" = some (.ref (He.ga K "need_depth")) := by
  obtain ⟨w, h, c, X, G⟩ := T
  exact He.glo_ok X G (c.x.t.d.fact 40 (f := .glo "need_depth") rfl)
theorem g_need_fault (T : Tx K mg) : mg "need_fault" = some (.ref (He.ga K "need_fault")) := by
  obtain ⟨w, h, c, X, G⟩ := T
  exact He.glo_ok X G (c.x.t.d.fact 41 (f := .glo "need_fault") rfl)
theorem g_is_form (T : Tx K mg) : mg "is_form" = some (.ref (He.ga K "is_form")) := by
  obtain ⟨w, h, c, X, G⟩ := T
  exact He.glo_ok X G (c.x.t.d.fact 42 (f := .glo "is_form") rfl)
theorem g_need_stand (T : Tx K mg) : mg "need_stand" = some (.ref (He.ga K "need_stand")) := by
  obtain ⟨w, h, c, X, G⟩ := T
  exact He.glo_ok X G (c.x.t.d.fact 43 (f := .glo "need_stand") rfl)
theorem g_wants_of (T : Tx K mg) : mg "wants_of" = some (.ref (He.ga K "wants_of")) := by
  obtain ⟨w, h, c, X, G⟩ := T
  exact He.glo_ok X G (c.x.t.d.fact 44 (f := .glo "wants_of") rfl)
theorem g_asked_from (T : Tx K mg) : mg "asked_from" = some (.ref (He.ga K "asked_from")) := by
  obtain ⟨w, h, c, X, G⟩ := T
  exact He.glo_ok X G (c.x.t.d.fact 45 (f := .glo "asked_from") rfl)
theorem g_lacked (T : Tx K mg) : mg "lacked" = some (.ref (He.ga K "lacked")) := by
  obtain ⟨w, h, c, X, G⟩ := T
  exact He.glo_ok X G (c.x.t.d.fact 46 (f := .glo "lacked") rfl)
theorem g_lacks (T : Tx K mg) : mg "lacks" = some (.ref (He.ga K "lacks")) := by
  obtain ⟨w, h, c, X, G⟩ := T
  exact He.glo_ok X G (c.x.t.d.fact 47 (f := .glo "lacks") rfl)
theorem g_is_far (T : Tx K mg) : mg "is_far" = some (.ref (He.ga K "is_far")) := by
  obtain ⟨w, h, c, X, G⟩ := T
  exact He.glo_ok X G (c.x.t.d.fact 48 (f := .glo "is_far") rfl)
theorem g_is_bad (T : Tx K mg) : mg "is_bad" = some (.ref (He.ga K "is_bad")) := by
  obtain ⟨w, h, c, X, G⟩ := T
  exact He.glo_ok X G (c.x.t.d.fact 49 (f := .glo "is_bad") rfl)
theorem g_is_wrong (T : Tx K mg) : mg "is_wrong" = some (.ref (He.ga K "is_wrong")) := by
  obtain ⟨w, h, c, X, G⟩ := T
  exact He.glo_ok X G (c.x.t.d.fact 50 (f := .glo "is_wrong") rfl)
theorem g_law_begun (T : Tx K mg) : mg "_law_begun" = some (.ref (He.ga K "_law_begun")) := by
  obtain ⟨w, h, c, X, G⟩ := T
  exact He.glo_ok X G (c.x.t.d.fact 51 (f := .glo "_law_begun") rfl)
theorem g_law_mixed (T : Tx K mg) : mg "_law_mixed" = some (.ref (He.ga K "_law_mixed")) := by
  obtain ⟨w, h, c, X, G⟩ := T
  exact He.glo_ok X G (c.x.t.d.fact 52 (f := .glo "_law_mixed") rfl)
theorem g_law_take (T : Tx K mg) : mg "_law_take" = some (.ref (He.ga K "_law_take")) := by
  obtain ⟨w, h, c, X, G⟩ := T
  exact He.glo_ok X G (c.x.t.d.fact 53 (f := .glo "_law_take") rfl)
theorem g_law_pick (T : Tx K mg) : mg "_law_pick" = some (.ref (He.ga K "_law_pick")) := by
  obtain ⟨w, h, c, X, G⟩ := T
  exact He.glo_ok X G (c.x.t.d.fact 54 (f := .glo "_law_pick") rfl)
theorem g_law_shuffled (T : Tx K mg) : mg "_law_shuffled" = some (.ref (He.ga K "_law_shuffled")) := by
  obtain ⟨w, h, c, X, G⟩ := T
  exact He.glo_ok X G (c.x.t.d.fact 55 (f := .glo "_law_shuffled") rfl)
theorem g_law_is_number (T : Tx K mg) : mg "_law_is_number" = some (.ref (He.ga K "_law_is_number")) := by
  obtain ⟨w, h, c, X, G⟩ := T
  exact He.glo_ok X G (c.x.t.d.fact 56 (f := .glo "_law_is_number") rfl)
theorem g_law_drawn_fields (T : Tx K mg) : mg "_law_drawn_fields" = some (.ref (He.ga K "_law_drawn_fields")) := by
  obtain ⟨w, h, c, X, G⟩ := T
  exact He.glo_ok X G (c.x.t.d.fact 57 (f := .glo "_law_drawn_fields") rfl)
theorem g_law_all_bars (T : Tx K mg) : mg "_law_all_bars" = some (.ref (He.ga K "_law_all_bars")) := by
  obtain ⟨w, h, c, X, G⟩ := T
  exact He.glo_ok X G (c.x.t.d.fact 58 (f := .glo "_law_all_bars") rfl)
theorem g_law_book (T : Tx K mg) : mg "_law_book" = some (.ref (He.ga K "_law_book")) := by
  obtain ⟨w, h, c, X, G⟩ := T
  exact He.glo_ok X G (c.x.t.d.fact 59 (f := .glo "_law_book") rfl)
theorem g_law_bar (T : Tx K mg) : mg "_law_bar" = some (.ref (He.ga K "_law_bar")) := by
  obtain ⟨w, h, c, X, G⟩ := T
  exact He.glo_ok X G (c.x.t.d.fact 60 (f := .glo "_law_bar") rfl)
theorem g_law_barred (T : Tx K mg) : mg "_law_barred" = some (.ref (He.ga K "_law_barred")) := by
  obtain ⟨w, h, c, X, G⟩ := T
  exact He.glo_ok X G (c.x.t.d.fact 61 (f := .glo "_law_barred") rfl)
theorem g_law_level_asked (T : Tx K mg) : mg "_law_level_asked" = some (.ref (He.ga K "_law_level_asked")) := by
  obtain ⟨w, h, c, X, G⟩ := T
  exact He.glo_ok X G (c.x.t.d.fact 62 (f := .glo "_law_level_asked") rfl)
theorem g_law_wants_let (T : Tx K mg) : mg "_law_wants_let" = some (.ref (He.ga K "_law_wants_let")) := by
  obtain ⟨w, h, c, X, G⟩ := T
  exact He.glo_ok X G (c.x.t.d.fact 63 (f := .glo "_law_wants_let") rfl)
theorem g_law_lacked (T : Tx K mg) : mg "_law_lacked" = some (.ref (He.ga K "_law_lacked")) := by
  obtain ⟨w, h, c, X, G⟩ := T
  exact He.glo_ok X G (c.x.t.d.fact 64 (f := .glo "_law_lacked") rfl)
theorem g_law_bad (T : Tx K mg) : mg "_law_bad" = some (.ref (He.ga K "_law_bad")) := by
  obtain ⟨w, h, c, X, G⟩ := T
  exact He.glo_ok X G (c.x.t.d.fact 65 (f := .glo "_law_bad") rfl)
theorem g_law_four (T : Tx K mg) : mg "_law_four" = some (.ref (He.ga K "_law_four")) := by
  obtain ⟨w, h, c, X, G⟩ := T
  exact He.glo_ok X G (c.x.t.d.fact 66 (f := .glo "_law_four") rfl)
theorem g_law_any_one (T : Tx K mg) : mg "_law_any_one" = some (.ref (He.ga K "_law_any_one")) := by
  obtain ⟨w, h, c, X, G⟩ := T
  exact He.glo_ok X G (c.x.t.d.fact 67 (f := .glo "_law_any_one") rfl)
theorem g_law_is_form (T : Tx K mg) : mg "_law_is_form" = some (.ref (He.ga K "_law_is_form")) := by
  obtain ⟨w, h, c, X, G⟩ := T
  exact He.glo_ok X G (c.x.t.d.fact 68 (f := .glo "_law_is_form") rfl)
theorem g_law_other_fields (T : Tx K mg) : mg "_law_other_fields" = some (.ref (He.ga K "_law_other_fields")) := by
  obtain ⟨w, h, c, X, G⟩ := T
  exact He.glo_ok X G (c.x.t.d.fact 69 (f := .glo "_law_other_fields") rfl)
theorem g_law_at_all_depths (T : Tx K mg) : mg "_law_at_all_depths" = some (.ref (He.ga K "_law_at_all_depths")) := by
  obtain ⟨w, h, c, X, G⟩ := T
  exact He.glo_ok X G (c.x.t.d.fact 70 (f := .glo "_law_at_all_depths") rfl)
theorem g_law_by_two_books (T : Tx K mg) : mg "_law_by_two_books" = some (.ref (He.ga K "_law_by_two_books")) := by
  obtain ⟨w, h, c, X, G⟩ := T
  exact He.glo_ok X G (c.x.t.d.fact 71 (f := .glo "_law_by_two_books") rfl)
theorem g_law (T : Tx K mg) : mg "law" = some (.ref (He.ga K "law")) := by
  obtain ⟨w, h, c, X, G⟩ := T
  exact He.glo_ok X G (c.x.t.d.fact 72 (f := .glo "law") rfl)
theorem cls_Book (T : Tx K mg) : Cls K (He.ga K "Book") := by
  obtain ⟨w, h, c, X, G⟩ := T
  exact He.cls_ok (c.x.t.d.fact 73 (f := .cls "Book") rfl)
theorem na_Book_b_held (T : Tx K mg) : NoAttr K (He.ga K "Book") "b_held" := by
  obtain ⟨w, h, c, X, G⟩ := T
  exact He.noat_ok (c.x.t.d.fact 74 (f := .noat "Book" "b_held") rfl)
theorem na_Book_b_each (T : Tx K mg) : NoAttr K (He.ga K "Book") "b_each" := by
  obtain ⟨w, h, c, X, G⟩ := T
  exact He.noat_ok (c.x.t.d.fact 75 (f := .noat "Book" "b_each") rfl)
theorem na_Book_b_lifted (T : Tx K mg) : NoAttr K (He.ga K "Book") "b_lifted" := by
  obtain ⟨w, h, c, X, G⟩ := T
  exact He.noat_ok (c.x.t.d.fact 76 (f := .noat "Book" "b_lifted") rfl)
theorem na_Book_b_ends (T : Tx K mg) : NoAttr K (He.ga K "Book") "b_ends" := by
  obtain ⟨w, h, c, X, G⟩ := T
  exact He.noat_ok (c.x.t.d.fact 77 (f := .noat "Book" "b_ends") rfl)
theorem na_Book_b_works (T : Tx K mg) : NoAttr K (He.ga K "Book") "b_works" := by
  obtain ⟨w, h, c, X, G⟩ := T
  exact He.noat_ok (c.x.t.d.fact 78 (f := .noat "Book" "b_works") rfl)
theorem na_Book_b_bars (T : Tx K mg) : NoAttr K (He.ga K "Book") "b_bars" := by
  obtain ⟨w, h, c, X, G⟩ := T
  exact He.noat_ok (c.x.t.d.fact 79 (f := .noat "Book" "b_bars") rfl)
theorem mk_Book (T : Tx K mg) : Mk K (He.ga K "Book") (mAt "Book" "__init__" K) := by
  obtain ⟨w, h, c, X, G⟩ := T
  exact He.mkr_ok (c.x.t.d.fact 80 (f := .mkr "Book") rfl)
theorem me_Book_choices (T : Tx K mg) : Meth K (He.ga K "Book") "choices" (mAt "Book" "choices" K) := by
  obtain ⟨w, h, c, X, G⟩ := T
  exact He.meth_ok (c.x.t.d.fact 81 (f := .meth "Book" "choices") rfl)
theorem me_Book_with_bars (T : Tx K mg) : Meth K (He.ga K "Book") "with_bars" (mAt "Book" "with_bars" K) := by
  obtain ⟨w, h, c, X, G⟩ := T
  exact He.meth_ok (c.x.t.d.fact 82 (f := .meth "Book" "with_bars") rfl)
theorem d_is_one_of (T : Tx K mg) : ∃ fd, FunD K "is_one_of" "is_one_of" (defArgs s_is_one_of) (defBody s_is_one_of) (defScope s_is_one_of) (dd_is_one_of.dvs K) (dd_is_one_of.kws K) (gAt "is_one_of" K) fd := by
  obtain ⟨w, h, c, X, G⟩ := T
  exact c.def_ 0 (d := dd_is_one_of) rfl
theorem d_are_bars (T : Tx K mg) : ∃ fd, FunD K "are_bars" "are_bars" (defArgs s_are_bars) (defBody s_are_bars) (defScope s_are_bars) (dd_are_bars.dvs K) (dd_are_bars.kws K) (gAt "are_bars" K) fd := by
  obtain ⟨w, h, c, X, G⟩ := T
  exact c.def_ 1 (d := dd_are_bars) rfl
theorem d_need_field (T : Tx K mg) : ∃ fd, FunD K "need_field" "need_field" (defArgs s_need_field) (defBody s_need_field) (defScope s_need_field) (dd_need_field.dvs K) (dd_need_field.kws K) (gAt "need_field" K) fd := by
  obtain ⟨w, h, c, X, G⟩ := T
  exact c.def_ 2 (d := dd_need_field) rfl
theorem d_Book_init (T : Tx K mg) : ∃ fd, FunD K "__init__" "Book.__init__" (defArgs s_Book_init) (defBody s_Book_init) (defScope s_Book_init) (dd_Book_init.dvs K) (dd_Book_init.kws K) (mAt "Book" "__init__" K) fd := by
  obtain ⟨w, h, c, X, G⟩ := T
  exact c.def_ 3 (d := dd_Book_init) rfl
theorem d_Book_held (T : Tx K mg) : ∃ fd, FunD K "held" "Book.held" (defArgs s_Book_held) (defBody s_Book_held) (defScope s_Book_held) (dd_Book_held.dvs K) (dd_Book_held.kws K) (pAt "Book" "held" K) fd := by
  obtain ⟨w, h, c, X, G⟩ := T
  exact c.def_ 4 (d := dd_Book_held) rfl
theorem d_Book_each (T : Tx K mg) : ∃ fd, FunD K "each" "Book.each" (defArgs s_Book_each) (defBody s_Book_each) (defScope s_Book_each) (dd_Book_each.dvs K) (dd_Book_each.kws K) (pAt "Book" "each" K) fd := by
  obtain ⟨w, h, c, X, G⟩ := T
  exact c.def_ 5 (d := dd_Book_each) rfl
theorem d_Book_lifted (T : Tx K mg) : ∃ fd, FunD K "lifted" "Book.lifted" (defArgs s_Book_lifted) (defBody s_Book_lifted) (defScope s_Book_lifted) (dd_Book_lifted.dvs K) (dd_Book_lifted.kws K) (pAt "Book" "lifted" K) fd := by
  obtain ⟨w, h, c, X, G⟩ := T
  exact c.def_ 6 (d := dd_Book_lifted) rfl
theorem d_Book_ends (T : Tx K mg) : ∃ fd, FunD K "ends" "Book.ends" (defArgs s_Book_ends) (defBody s_Book_ends) (defScope s_Book_ends) (dd_Book_ends.dvs K) (dd_Book_ends.kws K) (pAt "Book" "ends" K) fd := by
  obtain ⟨w, h, c, X, G⟩ := T
  exact c.def_ 7 (d := dd_Book_ends) rfl
theorem d_Book_works (T : Tx K mg) : ∃ fd, FunD K "works" "Book.works" (defArgs s_Book_works) (defBody s_Book_works) (defScope s_Book_works) (dd_Book_works.dvs K) (dd_Book_works.kws K) (pAt "Book" "works" K) fd := by
  obtain ⟨w, h, c, X, G⟩ := T
  exact c.def_ 8 (d := dd_Book_works) rfl
theorem d_Book_bars (T : Tx K mg) : ∃ fd, FunD K "bars" "Book.bars" (defArgs s_Book_bars) (defBody s_Book_bars) (defScope s_Book_bars) (dd_Book_bars.dvs K) (dd_Book_bars.kws K) (pAt "Book" "bars" K) fd := by
  obtain ⟨w, h, c, X, G⟩ := T
  exact c.def_ 9 (d := dd_Book_bars) rfl
theorem d_need_book (T : Tx K mg) : ∃ fd, FunD K "need_book" "need_book" (defArgs s_need_book) (defBody s_need_book) (defScope s_need_book) (dd_need_book.dvs K) (dd_need_book.kws K) (gAt "need_book" K) fd := by
  obtain ⟨w, h, c, X, G⟩ := T
  exact c.def_ 10 (d := dd_need_book) rfl
theorem d_is_number (T : Tx K mg) : ∃ fd, FunD K "is_number" "is_number" (defArgs s_is_number) (defBody s_is_number) (defScope s_is_number) (dd_is_number.dvs K) (dd_is_number.kws K) (gAt "is_number" K) fd := by
  obtain ⟨w, h, c, X, G⟩ := T
  exact c.def_ 11 (d := dd_is_number) rfl
theorem d_bar_of (T : Tx K mg) : ∃ fd, FunD K "bar_of" "bar_of" (defArgs s_bar_of) (defBody s_bar_of) (defScope s_bar_of) (dd_bar_of.dvs K) (dd_bar_of.kws K) (gAt "bar_of" K) fd := by
  obtain ⟨w, h, c, X, G⟩ := T
  exact c.def_ 12 (d := dd_bar_of) rfl
theorem d_need_depth (T : Tx K mg) : ∃ fd, FunD K "need_depth" "need_depth" (defArgs s_need_depth) (defBody s_need_depth) (defScope s_need_depth) (dd_need_depth.dvs K) (dd_need_depth.kws K) (gAt "need_depth" K) fd := by
  obtain ⟨w, h, c, X, G⟩ := T
  exact c.def_ 13 (d := dd_need_depth) rfl
theorem d_need_fault (T : Tx K mg) : ∃ fd, FunD K "need_fault" "need_fault" (defArgs s_need_fault) (defBody s_need_fault) (defScope s_need_fault) (dd_need_fault.dvs K) (dd_need_fault.kws K) (gAt "need_fault" K) fd := by
  obtain ⟨w, h, c, X, G⟩ := T
  exact c.def_ 14 (d := dd_need_fault) rfl
theorem d_is_form (T : Tx K mg) : ∃ fd, FunD K "is_form" "is_form" (defArgs s_is_form) (defBody s_is_form) (defScope s_is_form) (dd_is_form.dvs K) (dd_is_form.kws K) (gAt "is_form" K) fd := by
  obtain ⟨w, h, c, X, G⟩ := T
  exact c.def_ 15 (d := dd_is_form) rfl
theorem d_need_stand (T : Tx K mg) : ∃ fd, FunD K "need_stand" "need_stand" (defArgs s_need_stand) (defBody s_need_stand) (defScope s_need_stand) (dd_need_stand.dvs K) (dd_need_stand.kws K) (gAt "need_stand" K) fd := by
  obtain ⟨w, h, c, X, G⟩ := T
  exact c.def_ 16 (d := dd_need_stand) rfl
theorem d_wants_of (T : Tx K mg) : ∃ fd, FunD K "wants_of" "wants_of" (defArgs s_wants_of) (defBody s_wants_of) (defScope s_wants_of) (dd_wants_of.dvs K) (dd_wants_of.kws K) (gAt "wants_of" K) fd := by
  obtain ⟨w, h, c, X, G⟩ := T
  exact c.def_ 17 (d := dd_wants_of) rfl
theorem d_asked_from (T : Tx K mg) : ∃ fd, FunD K "asked_from" "asked_from" (defArgs s_asked_from) (defBody s_asked_from) (defScope s_asked_from) (dd_asked_from.dvs K) (dd_asked_from.kws K) (gAt "asked_from" K) fd := by
  obtain ⟨w, h, c, X, G⟩ := T
  exact c.def_ 18 (d := dd_asked_from) rfl
theorem d_lacked (T : Tx K mg) : ∃ fd, FunD K "lacked" "lacked" (defArgs s_lacked) (defBody s_lacked) (defScope s_lacked) (dd_lacked.dvs K) (dd_lacked.kws K) (gAt "lacked" K) fd := by
  obtain ⟨w, h, c, X, G⟩ := T
  exact c.def_ 19 (d := dd_lacked) rfl
theorem d_lacks (T : Tx K mg) : ∃ fd, FunD K "lacks" "lacks" (defArgs s_lacks) (defBody s_lacks) (defScope s_lacks) (dd_lacks.dvs K) (dd_lacks.kws K) (gAt "lacks" K) fd := by
  obtain ⟨w, h, c, X, G⟩ := T
  exact c.def_ 20 (d := dd_lacks) rfl
theorem d_is_far (T : Tx K mg) : ∃ fd, FunD K "is_far" "is_far" (defArgs s_is_far) (defBody s_is_far) (defScope s_is_far) (dd_is_far.dvs K) (dd_is_far.kws K) (gAt "is_far" K) fd := by
  obtain ⟨w, h, c, X, G⟩ := T
  exact c.def_ 21 (d := dd_is_far) rfl
theorem d_is_bad (T : Tx K mg) : ∃ fd, FunD K "is_bad" "is_bad" (defArgs s_is_bad) (defBody s_is_bad) (defScope s_is_bad) (dd_is_bad.dvs K) (dd_is_bad.kws K) (gAt "is_bad" K) fd := by
  obtain ⟨w, h, c, X, G⟩ := T
  exact c.def_ 22 (d := dd_is_bad) rfl
theorem d_is_wrong (T : Tx K mg) : ∃ fd, FunD K "is_wrong" "is_wrong" (defArgs s_is_wrong) (defBody s_is_wrong) (defScope s_is_wrong) (dd_is_wrong.dvs K) (dd_is_wrong.kws K) (gAt "is_wrong" K) fd := by
  obtain ⟨w, h, c, X, G⟩ := T
  exact c.def_ 23 (d := dd_is_wrong) rfl
theorem d_law_begun (T : Tx K mg) : ∃ fd, FunD K "_law_begun" "_law_begun" (defArgs s_law_begun) (defBody s_law_begun) (defScope s_law_begun) (dd_law_begun.dvs K) (dd_law_begun.kws K) (gAt "_law_begun" K) fd := by
  obtain ⟨w, h, c, X, G⟩ := T
  exact c.def_ 24 (d := dd_law_begun) rfl
theorem d_law_mixed (T : Tx K mg) : ∃ fd, FunD K "_law_mixed" "_law_mixed" (defArgs s_law_mixed) (defBody s_law_mixed) (defScope s_law_mixed) (dd_law_mixed.dvs K) (dd_law_mixed.kws K) (gAt "_law_mixed" K) fd := by
  obtain ⟨w, h, c, X, G⟩ := T
  exact c.def_ 25 (d := dd_law_mixed) rfl
theorem d_law_take (T : Tx K mg) : ∃ fd, FunD K "_law_take" "_law_take" (defArgs s_law_take) (defBody s_law_take) (defScope s_law_take) (dd_law_take.dvs K) (dd_law_take.kws K) (gAt "_law_take" K) fd := by
  obtain ⟨w, h, c, X, G⟩ := T
  exact c.def_ 26 (d := dd_law_take) rfl
theorem d_law_pick (T : Tx K mg) : ∃ fd, FunD K "_law_pick" "_law_pick" (defArgs s_law_pick) (defBody s_law_pick) (defScope s_law_pick) (dd_law_pick.dvs K) (dd_law_pick.kws K) (gAt "_law_pick" K) fd := by
  obtain ⟨w, h, c, X, G⟩ := T
  exact c.def_ 27 (d := dd_law_pick) rfl
theorem d_law_shuffled (T : Tx K mg) : ∃ fd, FunD K "_law_shuffled" "_law_shuffled" (defArgs s_law_shuffled) (defBody s_law_shuffled) (defScope s_law_shuffled) (dd_law_shuffled.dvs K) (dd_law_shuffled.kws K) (gAt "_law_shuffled" K) fd := by
  obtain ⟨w, h, c, X, G⟩ := T
  exact c.def_ 28 (d := dd_law_shuffled) rfl
theorem d_law_is_number (T : Tx K mg) : ∃ fd, FunD K "_law_is_number" "_law_is_number" (defArgs s_law_is_number) (defBody s_law_is_number) (defScope s_law_is_number) (dd_law_is_number.dvs K) (dd_law_is_number.kws K) (gAt "_law_is_number" K) fd := by
  obtain ⟨w, h, c, X, G⟩ := T
  exact c.def_ 29 (d := dd_law_is_number) rfl
theorem d_law_drawn_fields (T : Tx K mg) : ∃ fd, FunD K "_law_drawn_fields" "_law_drawn_fields" (defArgs s_law_drawn_fields) (defBody s_law_drawn_fields) (defScope s_law_drawn_fields) (dd_law_drawn_fields.dvs K) (dd_law_drawn_fields.kws K) (gAt "_law_drawn_fields" K) fd := by
  obtain ⟨w, h, c, X, G⟩ := T
  exact c.def_ 30 (d := dd_law_drawn_fields) rfl
theorem d_law_all_bars (T : Tx K mg) : ∃ fd, FunD K "_law_all_bars" "_law_all_bars" (defArgs s_law_all_bars) (defBody s_law_all_bars) (defScope s_law_all_bars) (dd_law_all_bars.dvs K) (dd_law_all_bars.kws K) (gAt "_law_all_bars" K) fd := by
  obtain ⟨w, h, c, X, G⟩ := T
  exact c.def_ 31 (d := dd_law_all_bars) rfl
theorem d_law_book (T : Tx K mg) : ∃ fd, FunD K "_law_book" "_law_book" (defArgs s_law_book) (defBody s_law_book) (defScope s_law_book) (dd_law_book.dvs K) (dd_law_book.kws K) (gAt "_law_book" K) fd := by
  obtain ⟨w, h, c, X, G⟩ := T
  exact c.def_ 32 (d := dd_law_book) rfl
theorem d_law_bar (T : Tx K mg) : ∃ fd, FunD K "_law_bar" "_law_bar" (defArgs s_law_bar) (defBody s_law_bar) (defScope s_law_bar) (dd_law_bar.dvs K) (dd_law_bar.kws K) (gAt "_law_bar" K) fd := by
  obtain ⟨w, h, c, X, G⟩ := T
  exact c.def_ 33 (d := dd_law_bar) rfl
theorem d_law_barred (T : Tx K mg) : ∃ fd, FunD K "_law_barred" "_law_barred" (defArgs s_law_barred) (defBody s_law_barred) (defScope s_law_barred) (dd_law_barred.dvs K) (dd_law_barred.kws K) (gAt "_law_barred" K) fd := by
  obtain ⟨w, h, c, X, G⟩ := T
  exact c.def_ 34 (d := dd_law_barred) rfl
theorem d_law_level_asked (T : Tx K mg) : ∃ fd, FunD K "_law_level_asked" "_law_level_asked" (defArgs s_law_level_asked) (defBody s_law_level_asked) (defScope s_law_level_asked) (dd_law_level_asked.dvs K) (dd_law_level_asked.kws K) (gAt "_law_level_asked" K) fd := by
  obtain ⟨w, h, c, X, G⟩ := T
  exact c.def_ 35 (d := dd_law_level_asked) rfl
theorem d_law_wants_let (T : Tx K mg) : ∃ fd, FunD K "_law_wants_let" "_law_wants_let" (defArgs s_law_wants_let) (defBody s_law_wants_let) (defScope s_law_wants_let) (dd_law_wants_let.dvs K) (dd_law_wants_let.kws K) (gAt "_law_wants_let" K) fd := by
  obtain ⟨w, h, c, X, G⟩ := T
  exact c.def_ 36 (d := dd_law_wants_let) rfl
theorem d_law_lacked (T : Tx K mg) : ∃ fd, FunD K "_law_lacked" "_law_lacked" (defArgs s_law_lacked) (defBody s_law_lacked) (defScope s_law_lacked) (dd_law_lacked.dvs K) (dd_law_lacked.kws K) (gAt "_law_lacked" K) fd := by
  obtain ⟨w, h, c, X, G⟩ := T
  exact c.def_ 37 (d := dd_law_lacked) rfl
theorem d_law_bad (T : Tx K mg) : ∃ fd, FunD K "_law_bad" "_law_bad" (defArgs s_law_bad) (defBody s_law_bad) (defScope s_law_bad) (dd_law_bad.dvs K) (dd_law_bad.kws K) (gAt "_law_bad" K) fd := by
  obtain ⟨w, h, c, X, G⟩ := T
  exact c.def_ 38 (d := dd_law_bad) rfl
theorem d_law_four (T : Tx K mg) : ∃ fd, FunD K "_law_four" "_law_four" (defArgs s_law_four) (defBody s_law_four) (defScope s_law_four) (dd_law_four.dvs K) (dd_law_four.kws K) (gAt "_law_four" K) fd := by
  obtain ⟨w, h, c, X, G⟩ := T
  exact c.def_ 39 (d := dd_law_four) rfl
theorem d_law_any_one (T : Tx K mg) : ∃ fd, FunD K "_law_any_one" "_law_any_one" (defArgs s_law_any_one) (defBody s_law_any_one) (defScope s_law_any_one) (dd_law_any_one.dvs K) (dd_law_any_one.kws K) (gAt "_law_any_one" K) fd := by
  obtain ⟨w, h, c, X, G⟩ := T
  exact c.def_ 40 (d := dd_law_any_one) rfl
theorem d_law_is_form (T : Tx K mg) : ∃ fd, FunD K "_law_is_form" "_law_is_form" (defArgs s_law_is_form) (defBody s_law_is_form) (defScope s_law_is_form) (dd_law_is_form.dvs K) (dd_law_is_form.kws K) (gAt "_law_is_form" K) fd := by
  obtain ⟨w, h, c, X, G⟩ := T
  exact c.def_ 41 (d := dd_law_is_form) rfl
theorem d_law_other_fields (T : Tx K mg) : ∃ fd, FunD K "_law_other_fields" "_law_other_fields" (defArgs s_law_other_fields) (defBody s_law_other_fields) (defScope s_law_other_fields) (dd_law_other_fields.dvs K) (dd_law_other_fields.kws K) (gAt "_law_other_fields" K) fd := by
  obtain ⟨w, h, c, X, G⟩ := T
  exact c.def_ 42 (d := dd_law_other_fields) rfl
theorem d_law_at_all_depths (T : Tx K mg) : ∃ fd, FunD K "_law_at_all_depths" "_law_at_all_depths" (defArgs s_law_at_all_depths) (defBody s_law_at_all_depths) (defScope s_law_at_all_depths) (dd_law_at_all_depths.dvs K) (dd_law_at_all_depths.kws K) (gAt "_law_at_all_depths" K) fd := by
  obtain ⟨w, h, c, X, G⟩ := T
  exact c.def_ 43 (d := dd_law_at_all_depths) rfl
theorem d_law_by_two_books (T : Tx K mg) : ∃ fd, FunD K "_law_by_two_books" "_law_by_two_books" (defArgs s_law_by_two_books) (defBody s_law_by_two_books) (defScope s_law_by_two_books) (dd_law_by_two_books.dvs K) (dd_law_by_two_books.kws K) (gAt "_law_by_two_books" K) fd := by
  obtain ⟨w, h, c, X, G⟩ := T
  exact c.def_ 44 (d := dd_law_by_two_books) rfl
theorem d_law (T : Tx K mg) : ∃ fd, FunD K "law" "law" (defArgs s_law) (defBody s_law) (defScope s_law) (dd_law.dvs K) (dd_law.kws K) (gAt "law" K) fd := by
  obtain ⟨w, h, c, X, G⟩ := T
  exact c.def_ 45 (d := dd_law) rfl
theorem c_BARS (T : Tx K mg) (H : Hp) : SqT K H (He.ga K "BARS") (([.str "each-shorter", .str "each-use", .str "held-shorter", .str "held-use", .str "use-each", .str "use-held"] : List He.Dv).map (He.Dv.v K)) := He.tupB_ok (He.ba (tx_more T)).1 H
theorem c_FAULTS (T : Tx K mg) (H : Hp) : SqT K H (He.ga K "FAULTS") (([.str "ended", .str "left", .str "missing", .str "strayed"] : List He.Dv).map (He.Dv.v K)) := He.tupB_ok (He.ba (He.ba (tx_more T)).2).1 H
theorem c_HELD (T : Tx K mg) (H : Hp) : SqT K H (He.ga K "HELD") (([.str "home", .str "now"] : List He.Dv).map (He.Dv.v K)) := He.tupB_ok (He.ba (He.ba (He.ba (tx_more T)).2).2).1 H
theorem c_EACH (T : Tx K mg) (H : Hp) : SqT K H (He.ga K "EACH") (([.str "now", .str "program"] : List He.Dv).map (He.Dv.v K)) := He.tupB_ok (He.ba (He.ba (He.ba (He.ba (tx_more T)).2).2).2).1 H
theorem c_LIFTED (T : Tx K mg) (H : Hp) : SqT K H (He.ga K "LIFTED") (([.str "nothing", .str "kept"] : List He.Dv).map (He.Dv.v K)) := He.tupB_ok (He.ba (He.ba (He.ba (He.ba (He.ba (tx_more T)).2).2).2).2).1 H
theorem c_ENDS (T : Tx K mg) (H : Hp) : SqT K H (He.ga K "ENDS") (([.str "holder", .str "never", .str "scope"] : List He.Dv).map (He.Dv.v K)) := He.tupB_ok (He.ba (He.ba (He.ba (He.ba (He.ba (He.ba (tx_more T)).2).2).2).2).2).1 H
theorem c_WORKS (T : Tx K mg) (H : Hp) : SqT K H (He.ga K "WORKS") (([.str "own", .str "same", .str "wait"] : List He.Dv).map (He.Dv.v K)) := He.tupB_ok (He.ba (He.ba (He.ba (He.ba (He.ba (He.ba (He.ba (tx_more T)).2).2).2).2).2).2).1 H
theorem c_WAYS (T : Tx K mg) (H : Hp) : SqT K H (He.ga K "WAYS") (([.str "each", .str "held"] : List He.Dv).map (He.Dv.v K)) := He.tupB_ok (He.ba (He.ba (He.ba (He.ba (He.ba (He.ba (He.ba (He.ba (tx_more T)).2).2).2).2).2).2).2).1 H
theorem pr_Book_held (T : Tx K mg) : PropOf K (He.ga K "Book") "held" (mAt "Book" "held" K) (pAt "Book" "held" K) := propB_ok (He.ba (He.ba (He.ba (He.ba (He.ba (He.ba (He.ba (He.ba (He.ba (tx_more T)).2).2).2).2).2).2).2).2).1
theorem pr_Book_each (T : Tx K mg) : PropOf K (He.ga K "Book") "each" (mAt "Book" "each" K) (pAt "Book" "each" K) := propB_ok (He.ba (He.ba (He.ba (He.ba (He.ba (He.ba (He.ba (He.ba (He.ba (He.ba (tx_more T)).2).2).2).2).2).2).2).2).2).1
theorem pr_Book_lifted (T : Tx K mg) : PropOf K (He.ga K "Book") "lifted" (mAt "Book" "lifted" K) (pAt "Book" "lifted" K) := propB_ok (He.ba (He.ba (He.ba (He.ba (He.ba (He.ba (He.ba (He.ba (He.ba (He.ba (He.ba (tx_more T)).2).2).2).2).2).2).2).2).2).2).1
theorem pr_Book_ends (T : Tx K mg) : PropOf K (He.ga K "Book") "ends" (mAt "Book" "ends" K) (pAt "Book" "ends" K) := propB_ok (He.ba (He.ba (He.ba (He.ba (He.ba (He.ba (He.ba (He.ba (He.ba (He.ba (He.ba (He.ba (tx_more T)).2).2).2).2).2).2).2).2).2).2).2).1
theorem pr_Book_works (T : Tx K mg) : PropOf K (He.ga K "Book") "works" (mAt "Book" "works" K) (pAt "Book" "works" K) := propB_ok (He.ba (He.ba (He.ba (He.ba (He.ba (He.ba (He.ba (He.ba (He.ba (He.ba (He.ba (He.ba (He.ba (tx_more T)).2).2).2).2).2).2).2).2).2).2).2).2).1
theorem pr_Book_bars (T : Tx K mg) : PropOf K (He.ga K "Book") "bars" (mAt "Book" "bars" K) (pAt "Book" "bars" K) := propB_ok (He.ba (He.ba (He.ba (He.ba (He.ba (He.ba (He.ba (He.ba (He.ba (He.ba (He.ba (He.ba (He.ba (He.ba (tx_more T)).2).2).2).2).2).2).2).2).2).2).2).2).2).1
theorem eq_Book (T : Tx K mg) : eqB K "Book" = true := (He.ba (He.ba (He.ba (He.ba (He.ba (He.ba (He.ba (He.ba (He.ba (He.ba (He.ba (He.ba (He.ba (He.ba (He.ba (tx_more T)).2).2).2).2).2).2).2).2).2).2).2).2).2).2).1
theorem nf_Book (T : Tx K mg) : nfB K "Book" ["NoneType", "bool", "int", "str", "list", "tuple", "dict"] = true := (He.ba (He.ba (He.ba (He.ba (He.ba (He.ba (He.ba (He.ba (He.ba (He.ba (He.ba (He.ba (He.ba (He.ba (He.ba (He.ba (tx_more T)).2).2).2).2).2).2).2).2).2).2).2).2).2).2).2).1
theorem in_Book (T : Tx K mg) : insB K "Book" ["NoneType", "bool", "int", "str", "list", "tuple", "dict"] = true := (He.ba (He.ba (He.ba (He.ba (He.ba (He.ba (He.ba (He.ba (He.ba (He.ba (He.ba (He.ba (He.ba (He.ba (He.ba (He.ba (He.ba (tx_more T)).2).2).2).2).2).2).2).2).2).2).2).2).2).2).2).2).1
theorem dt_Book_init (T : Tx K mg) (H : Hp) : SqT K H (kwAt (mAt "Book" "__init__") "bars" K) [] := tupAB_ok (vs := []) (He.ba (He.ba (He.ba (He.ba (He.ba (He.ba (He.ba (He.ba (He.ba (He.ba (He.ba (He.ba (He.ba (He.ba (He.ba (He.ba (He.ba (tx_more T)).2).2).2).2).2).2).2).2).2).2).2).2).2).2).2).2).2 H
end
end HL

namespace HL
open PySem PySem.Spec PyProof.Rows L2

abbrev R : PySem.W.OpenRow := PySem.W.OpenLaw.row PySem.Challenge.rw_heldlives_k33_lacking_and_wrong_stands
def loose0 : List Str := ["_wall", "LifeError", "BadBook", "BadDepth", "BadFault", "BadStand", "BARS", "FAULTS", "HELD", "EACH", "LIFTED", "ENDS", "WORKS", "is_one_of", "are_bars", "need_field", "Book", "need_book", "USE", "is_number"]
def loose1 : List Str := ["bar_of", "MOST_DEPTH", "OWN", "OTHER", "WAYS", "need_depth", "need_fault", "is_form", "need_stand", "wants_of", "asked_from", "lacked", "lacks", "is_far", "is_bad", "is_wrong", "_law_begun", "_law_mixed", "_law_take", "_law_pick"]
def loose2 : List Str := ["_law_shuffled", "_law_is_number", "_law_drawn_fields", "_law_all_bars", "_law_book", "_law_bar", "_law_barred", "_law_level_asked", "_law_wants_let", "_law_lacked", "_law_bad", "_law_four", "_law_any_one", "_law_is_form", "_law_other_fields", "_law_at_all_depths", "_law_by_two_books"]
def loose : List Str := loose0 ++ loose1 ++ loose2
abbrev hk : PySem.W.Hook := hookH 7 fa tabs lamd exB fn
def ob (s : PySem.W.SharedT) : AlH := obsH 7 fa tabs lamd exB fn (HandSHeadRun.getT s)
theorem ob_eq (s : PySem.W.SharedT) : ob s = hk.obs s.abs := obsH_eq (HandSHeadRun.getT_eq s)
theorem run (w : World) : HandSHeadRun.RunEq R (PySem.W.view R.prog [62]) hk ob 8000 loose w := by
  intro os
  kernel_rfl
end HL

namespace HL
open PySem PySem.Spec PyProof.Rows L2

section
variable {P : Program} {w : World} {K : PySem.W.Frag} {mg : Str → Option Value} {base : Heap}
/-! ### the draws -/
def drawKv (lw lc : Addr) (r t : Int) : List (Key × V) := [(.inr "wide", .ref lw), (.inr "cells", .ref lc), (.inr "rest", .int r), (.inr "turn", .int t)]
theorem get_wide {H : Hp} {d lw lc : Addr} {r t : Int} (h : H d = some (.dK (drawKv lw lc r t))) : DGet H d (.str "wide") (some (.ref lw)) := DGet.k (k := .inr "wide") h
theorem get_cells {H : Hp} {d lw lc : Addr} {r t : Int} (h : H d = some (.dK (drawKv lw lc r t))) : DGet H d (.str "cells") (some (.ref lc)) := DGet.k (k := .inr "cells") h
theorem get_rest {H : Hp} {d lw lc : Addr} {r t : Int} (h : H d = some (.dK (drawKv lw lc r t))) : DGet H d (.str "rest") (some (.int r)) := DGet.k (k := .inr "rest") h
theorem get_turn {H : Hp} {d lw lc : Addr} {r t : Int} (h : H d = some (.dK (drawKv lw lc r t))) : DGet H d (.str "turn") (some (.int t)) := DGet.k (k := .inr "turn") h
theorem put_rest {H : Hp} {d lw lc : Addr} {r t z : Int} (h : H d = some (.dK (drawKv lw lc r t))) : DPut H d (.str "rest") (.int z) (upd H d (.dK (drawKv lw lc z t))) := DPut.k (k := .inr "rest") h (by show 4 < sizeLine; decide)
theorem put_turn {H : Hp} {d lw lc : Addr} {r t z : Int} (h : H d = some (.dK (drawKv lw lc r t))) : DPut H d (.str "turn") (.int z) (upd H d (.dK (drawKv lw lc r z))) := DPut.k (k := .inr "turn") h (by show 4 < sizeLine; decide)
def primes : List V := [.int 2147483629, .int 2147483587, .int 2147483579, .int 2147483563]
theorem primes_at {i : Nat} {x : V} (h : primes[i]? = some x) : ∃ p : Int, x = .int p ∧ 0 < p ∧ p < 2147483648 := by
  have m : x ∈ primes := List.mem_of_getElem? h
  simp only [primes, List.mem_cons, List.not_mem_nil, or_false] at m
  rcases m with rfl | rfl | rfl | rfl
  all_goals exact ⟨_, rfl, by decide, by decide⟩
theorem ints_at {ns : List Int} {i : Nat} {x : V} (h : (ns.map V.int)[i]? = some x) : ∃ n : Int, x = .int n ∧ n ∈ ns := by
  obtain ⟨n, hn, e⟩ := List.mem_map.mp (List.mem_of_getElem? h)
  exact ⟨n, e.symm, hn⟩
def spMixed : Sp := fun vs H Q _ => ∃ (d lw lc : Addr) (r t : Int) (cs : List Int), vs = [.ref d] ∧ 0 ≤ t ∧ t ≤ 1099511627776 ∧ H d = some (.dK (drawKv lw lc r t)) ∧ H lc = some (.lst (cs.map V.int)) ∧
  ∀ (n : Int) (H' : Hp), Same (upd H d (.dK (drawKv lw lc r (t + 1)))) H' → Q (.int n) H'
theorem has_mixed (T : Tx K mg) : Has P w K mg base "_law_mixed" 1 ["_law_draw"] spMixed := by
  refine has_of (k := 0) (g_law_mixed T) (d_law_mixed T) sc_law_mixed (fun _ _ _ _ _ _ us hl => match us, hl with | [_], _ => rfl) (fun vs H Q E h => ?_) (fun cdv A outer s H vs Q E hr h => ?_)
  · obtain ⟨d, lw, lc, r, t, cs, rfl, _⟩ := h
    rfl
  · obtain ⟨d, lw, lc, r, t, cs, rfl, ht0, ht1, hd, hc, k⟩ := h
    have hu := hu_of hr
    refine ⟨_, (pss_cons (ps_par (i := 1) (j := 2) (by rfl) sc_law_mixed.nd rfl rfl (by decide) rfl rfl (pa_cons (pe_op op_add (pe_dget hu (pv 0) pe_str (fun _ _ => rfl)) pe_int) (pa_cons pe_int pa_nil)) (by rfl)) (pss_cons (ps_dput hu (pv 0) pe_str (pv 1) rfl) (pss_cons (ps_for PassesOwn.never rfl (pi_list (pe_lst (pa_cons pe_int (pa_cons pe_int (pa_cons pe_int (pa_cons pe_int pa_nil)))))) (pg_name (i := 3) sc_law_mixed.nd rfl (Or.inl rfl)) (pss_cons (ps_set (i := 4) sc_law_mixed.nd rfl (Or.inl rfl) (pe_op op_add (pe_op op_mul pe_int (pv 1)) (pe_op op_fdiv (pv 3) pe_int))) (pss_cons (ps_for PassesOwn.never rfl (pi_list (pe_dget hu (pv 0) pe_str (fun _ _ => rfl))) (pg_name (i := 5) sc_law_mixed.nd rfl (Or.inl rfl)) (pss_one (ps_set (i := 4) sc_law_mixed.nd rfl (Or.inl rfl) (pe_op op_mod (pe_callTy call_int1 (by rfl) (m_int T) boot_int (pa_cons (pe_op op_add (pe_op op_add (pe_op op_mul (pv 4) pe_int) (pv 5)) (pv 1)) pa_nil)) (pv 3))))) (pss_one (ps_set (i := 2) sc_law_mixed.nd rfl (Or.inl rfl) (pe_op op_add (pe_op op_mul (pv 2) pe_int) (pe_op op_mod (pe_callTy call_int1 (by rfl) (m_int T) boot_int (pa_cons (pe_op op_pow (pv 4) pe_int) pa_nil)) (pv 3)))))))) (pss_one (ps_ret (pv 2)))))), ?_⟩
    refine ⟨_, rfl, d, _, rfl, get_turn hd, _, _, rfl, rfl, _, _, rfl, ?_⟩
    refine ⟨_, rfl, _, rfl, d, _, rfl, put_turn hd, ?_⟩
    have ncd : lc ≠ d := ne_of hc hd (by intro z; cases z)
    generalize hH1 : upd H d (.dK (drawKv lw lc r (t + 1))) = H1
    have h1d : H1 d = some (.dK (drawKv lw lc r (t + 1))) := by
      rw [← hH1]
      exact upd_same
    have h1c : H1 lc = some (.lst (cs.map V.int)) := by
      rw [← hH1, upd_ne ncd]
      exact hc
    refine ⟨by decide, fun l hl => ?_⟩
    have s2 : Same H1 (upd H1 l (.lst primes)) := same_new hl
    refine ⟨l, rfl, ⟨_, SqL.of upd_same⟩, for_list (K := K) (a := l) (xs := primes) (fun i σ H' => ∃ (f : Int) (p b c : Option V), σ = [some (.ref d), some (.int (t + 1)), some (.int f), p, b, c] ∧ H' = upd H1 l (.lst primes)) ⟨0, none, none, none, rfl, rfl⟩ ?_ ?_ ?_⟩
    · rintro i σ H' _ ⟨_, _, _, _, _, rfl⟩
      exact SqL.of upd_same
    · rintro i x σ H' hx ⟨f, p, b, c, rfl, rfl⟩
      obtain ⟨q, rfl, hq0, hq1⟩ := primes_at hx
      refine ⟨_, rfl, _, _, rfl, rfl, .inl ⟨by decide, by decide⟩, _, rfl, _, _, rfl, rfl, ⟨by decide, by decide⟩, _, _, rfl, rfl, ?_⟩
      have hb0 : (0 : Int) ≤ 61441 * (t + 1) + q / 19 ∧ 61441 * (t + 1) + q / 19 < 18446744073709551616 := by
        have := Int.ediv_nonneg (Int.le_of_lt hq0) (show (0 : Int) ≤ 19 by decide)
        have : q / 19 ≤ q := Int.ediv_le_self _ (Int.le_of_lt hq0)
        omega
      refine ⟨_, rfl, d, _, rfl, get_cells (s2 _ _ h1d), lc, rfl, ⟨_, SqL.of (s2 _ _ h1c)⟩, for_list (K := K) (a := lc) (xs := cs.map V.int) (fun i σ H' => ∃ (b : Int) (c : Option V), σ = [some (.ref d), some (.int (t + 1)), some (.int f), some (.int q), some (.int b), c] ∧ 0 ≤ b ∧ b < 18446744073709551616 ∧ H' = upd H1 l (.lst primes)) ⟨_, _, rfl, hb0.1, hb0.2, rfl⟩ ?_ ?_ ?_⟩
      · rintro i σ H' _ ⟨_, _, _, _, _, rfl⟩
        exact SqL.of (s2 _ _ h1c)
      · rintro i x σ H' hx ⟨b, c, rfl, hb1, hb2, rfl⟩
        obtain ⟨z, rfl, _⟩ := ints_at hx
        refine ⟨_, rfl, _, _, rfl, rfl, .inr ⟨by decide, by decide⟩, _, rfl, _, _, rfl, rfl, _, rfl, _, _, rfl, rfl, .inl ⟨_, rfl, ?_⟩⟩
        refine ⟨_, rfl, _, _, rfl, rfl, hq0, ?_⟩
        refine ⟨_, _, rfl, Int.emod_nonneg _ (by omega), ?_, rfl⟩
        have := Int.emod_lt_of_pos (b * 48271 + z + (t + 1)) hq0
        omega
      · rintro σ H' ⟨b, c, rfl, hb1, hb2, rfl⟩
        refine ⟨_, rfl, _, _, rfl, rfl, .inr ⟨by decide, by decide⟩, _, rfl, _, _, rfl, rfl, ⟨by decide, by decide, by show b.natAbs < 2 ^ 64; omega⟩, .inl ⟨_, rfl, ?_⟩⟩
        refine ⟨_, rfl, _, _, rfl, rfl, hq0, _, _, rfl, rfl, ?_⟩
        exact ⟨_, _, _, _, rfl, rfl⟩
    · rintro σ H' ⟨f, p, b, c, rfl, rfl⟩
      exact ⟨_, rfl, k _ _ (by rw [hH1]; exact s2)⟩

def spTakeC : Sp := fun vs H Q _ => ∃ (d lw lc : Addr) (r t : Int) (ws cs : List Int) (n : Int), vs = [.ref d, .int n] ∧ 0 < n ∧ n < 1073741824 ∧ 0 ≤ t ∧ t ≤ 1099511627776 ∧ H d = some (.dK (drawKv lw lc r t)) ∧
  H lw = some (.lst (ws.map V.int)) ∧ H lc = some (.lst (cs.map V.int)) ∧ lw ≠ lc ∧ ws.length ≤ 100 ∧
  ∀ (k r' t' : Int) (ws' : List Int) (H' : Hp), 0 ≤ k → k < n → 0 ≤ t' → t' ≤ t + 1 → ws'.length ≤ 100 → H' d = some (.dK (drawKv lw lc r' t')) → H' lw = some (.lst (ws'.map V.int)) → H' lc = some (.lst (cs.map V.int)) →
    (∀ b o, b ≠ d → b ≠ lw → H b = some o → H' b = some o) → Q (.int k) H'
theorem has_takeC (T : Tx K mg) : Has P w K mg base "_law_take" 2 ["_law_draw", "_law_size"] spTakeC := by
  have h_law_mixed : Has P w K mg base "_law_mixed" 1 ["_law_draw"] spMixed := has_mixed T
  refine has_of (k := 1) (g_law_take T) (d_law_take T) sc_law_take (fun _ _ _ _ _ _ us hl => match us, hl with | [_, _], _ => rfl) (fun vs H Q E h => ?_) (fun cdv A outer s H vs Q E hr h => ?_)
  · obtain ⟨d, lw, lc, r, t, ws, cs, n, rfl, _⟩ := h
    rfl
  · obtain ⟨d, lw, lc, r, t, ws, cs, n, rfl, hn0, hn1, ht0, ht1, hd, hw, hc, nwc, hl, k⟩ := h
    have hu := hu_of hr
    have nwd : lw ≠ d := ne_of hw hd (by intro z; cases z)
    have ncd : lc ≠ d := ne_of hc hd (by intro z; cases z)
    refine ⟨_, (Evl.pss_cut (ps_if (pt_cmpR op_eq (pe_dget hu (pv 0) pe_str (fun _ _ => rfl)) pe_int (nomark _)) (pss_one (ps_dput hu (pv 0) pe_str (pe_ifExp (pt_cmpR (op_neNil hr.units) (pe_dget hu (pv 0) pe_str (fun _ _ => rfl)) (pe_lst pa_nil) (nomark _)) (pe_bm PySem.F.plainAttrs_list PySem.F.slot_list_pop PySem.F.type_list_pop mt_popAt (pe_dget hu (pv 0) pe_str (fun _ _ => rfl)) (pa_cons pe_int pa_nil)) (pe_has h_law_mixed (hr.mono (by decide)) rfl (pa_cons (pv 0) pa_nil))) rfl)) pss_nil) (pss_cons (ps_set (i := 2) sc_law_take.nd rfl (Or.inl rfl) (pe_op op_mod (pe_callTy call_int1 (by rfl) (m_int T) boot_int (pa_cons (pe_dget hu (pv 0) pe_str (fun _ _ => rfl)) pa_nil)) (pv 1))) (pss_cons (ps_dput hu (pv 0) pe_str (pe_op op_fdiv (pe_dget hu (pv 0) pe_str (fun _ _ => rfl)) (pv 1)) rfl) (pss_one (ps_ret (pv 2)))))), ?_⟩
    refine ⟨fun σ' H' => σ' = [some (.ref d), some (.int n), none] ∧ ∃ (r' t' : Int) (ws' : List Int), 0 ≤ t' ∧ t' ≤ t + 1 ∧ ws'.length ≤ 100 ∧ H' d = some (.dK (drawKv lw lc r' t')) ∧ H' lw = some (.lst (ws'.map V.int)) ∧ H' lc = some (.lst (cs.map V.int)) ∧ ∀ b o, b ≠ d → b ≠ lw → H b = some o → H' b = some o, ?_, ?_⟩
    · refine ⟨_, rfl, d, _, rfl, get_rest hd, rfl, _, rfl, ?_⟩
      refine ite2 (fun _ => ?_) (fun _ => ⟨rfl, r, t, ws, ht0, by omega, hl, hd, hw, hc, fun b o _ _ e => e⟩)
      refine ⟨_, rfl, d, _, rfl, get_wide hd, by decide, fun l hl0 => ?_⟩
      have s1 : Same H (upd H l (.lst [])) := same_new hl0
      refine ⟨lw, l, _, rfl, rfl, SqL.of (s1 _ _ hw), SqL.of upd_same, _, rfl, ?_⟩
      cases ws with
      | nil =>
        refine iteF ⟨_, rfl, d, lw, lc, r, t, cs, rfl, ht0, ht1, s1 _ _ hd, s1 _ _ hc, fun n H' sm => ?_⟩
        have s2 : ∀ b o, b ≠ d → H b = some o → H' b = some o := fun b o nb e => sm b o (by rw [upd_ne nb]; exact s1 _ _ e)
        refine ⟨_, rfl, d, _, rfl, put_rest (sm _ _ upd_same), rfl, n, t + 1, [], by omega, by omega, by decide, upd_same, ?_, ?_, fun b o nb nw e => ?_⟩
        · rw [upd_ne nwd]
          exact s2 _ _ nwd hw
        · rw [upd_ne ncd]
          exact s2 _ _ ncd hc
        · rw [upd_ne nb]
          exact s2 _ _ nb e
      | cons z zs =>
        refine iteT ⟨_, rfl, d, _, rfl, get_wide (s1 _ _ hd), .inl ⟨rfl, _, SqL.of (s1 _ _ hw)⟩, lw, _, 0, 0, _, rfl, rfl, s1 _ _ hw, by decide, by decide, sIx_nat (i := 0) (by simp), rfl, ?_⟩
        refine ⟨_, rfl, d, _, rfl, put_rest (r := r) (t := t) (by rw [upd_ne nwd.symm]; exact s1 _ _ hd), rfl, z, t, zs, ht0, by omega, ?_, upd_same, ?_, ?_, fun b o nb nw e => ?_⟩
        · simp only [List.length_cons] at hl
          omega
        · rw [upd_ne nwd]
          exact upd_same
        · rw [upd_ne ncd, upd_ne nwc.symm]
          exact s1 _ _ hc
        · rw [upd_ne nb, upd_ne nw]
          exact s1 _ _ e
    · rintro σ' H' ⟨rfl, r', t', ws', h1, h2, h3, h4, h5, h6, h7⟩
      refine ⟨_, rfl, d, _, rfl, get_rest h4, .inl ⟨_, rfl, _, rfl, _, _, rfl, rfl, hn0, ?_⟩⟩
      refine ⟨_, rfl, d, _, rfl, get_rest h4, _, rfl, _, _, rfl, rfl, ⟨hn0, hn1⟩, _, rfl, d, _, rfl, put_rest h4, ?_⟩
      refine ⟨_, rfl, k _ _ _ ws' _ (Int.emod_nonneg _ (by omega)) (Int.emod_lt_of_pos _ hn0) h1 h2 h3 upd_same ?_ ?_ fun b o nb nw e => ?_⟩
      · rw [upd_ne nwd]
        exact h5
      · rw [upd_ne ncd]
        exact h6
      · rw [upd_ne nb]
        exact h7 b o nb nw e

/-! ### the draw, its content left open: n bounds its turns -/
def SDraw (n : Nat) (lw lc : Addr) : HO → Prop := fun o => ∃ r t : Int, 0 ≤ t ∧ t ≤ n ∧ o = .dK (drawKv lw lc r t)
def SInts : HO → Prop := fun o => ∃ ns : List Int, ns.length ≤ 100 ∧ o = .lst (ns.map V.int)
theorem flatD {n : Nat} {lw lc : Addr} : Flat (SDraw n lw lc) := fun o ⟨_, _, _, _, e⟩ => .inr ⟨_, e⟩
theorem flatI : Flat SInts := fun o ⟨_, _, e⟩ => .inl ⟨_, e⟩
def Dr (P : Program) (w : World) (n : Nat) (H : Hp) (d : Addr) : Prop := ∃ (m : Nat) (lw lc : Addr), m ≤ n ∧ lw ≠ d ∧ lc ≠ d ∧ lw ≠ lc ∧
  H d = some (some_ P w (SDraw m lw lc) d) ∧ H lw = some (some_ P w SInts lw) ∧ H lc = some (some_ P w SInts lc)
theorem Dr.mono {n m : Nat} {H : Hp} {d : Addr} (h : Dr P w n H d) (e : n ≤ m) : Dr P w m H d := by
  obtain ⟨k, lw, lc, h1, h⟩ := h
  exact ⟨k, lw, lc, Nat.le_trans h1 e, h⟩
theorem Dr.same {n : Nat} {H H' : Hp} {d : Addr} (h : Dr P w n H d) (e : Same H H') : Dr P w n H' d := by
  obtain ⟨k, lw, lc, h1, h2, h3, h4, h5, h6, h7⟩ := h
  exact ⟨k, lw, lc, h1, h2, h3, h4, e _ _ h5, e _ _ h6, e _ _ h7⟩
/-- all but the draw's own dict stays -/
def SmD (d : Addr) (H H' : Hp) : Prop := ∀ b o, b ≠ d → H b = some o → H' b = some o
theorem SmD.refl {d : Addr} {H : Hp} : SmD d H H := fun _ _ _ e => e
theorem SmD.trans {d : Addr} {H H1 H2 : Hp} (a : SmD d H H1) (b : SmD d H1 H2) : SmD d H H2 := fun c o n e => b c o n (a c o n e)
theorem SmD.of {d : Addr} {H H' : Hp} (e : Same H H') : SmD d H H' := fun b o _ h => e b o h
def spTake (P : Program) (w : World) : Sp := fun vs H Q _ => ∃ (n : Nat) (d : Addr) (z : Int), vs = [.ref d, .int z] ∧ 0 < z ∧ z < 1073741824 ∧ n < 1099511627776 ∧ Dr P w n H d ∧
  ∀ (k : Int) (H' : Hp), 0 ≤ k → k < z → SmD d H H' → Dr P w (n + 1) H' d → Q (.int k) H'
theorem has_take (T : Tx K mg) : Has P w K mg base "_law_take" 2 ["_law_draw", "_law_size"] (spTake P w) := by
  refine (has_takeC T).open.open.open.imp fun vs H Q E h => ?_
  obtain ⟨n, d, z, rfl, hz0, hz1, hn, ⟨m, lw, lc, hm, nwd, ncd, nwc, hd, hw, hc⟩, k⟩ := h
  refine ⟨rfl, d, SDraw m lw lc, SDraw (m + 1) lw lc, flatD, flatD, hd, fun o1 ⟨r, t, ht0, ht1, e1⟩ => ⟨rfl, lw, SInts, SInts, flatI, flatI, by rw [upd_ne nwd]; exact hw, fun o2 ⟨ws, hws, e2⟩ => ⟨rfl, lc, SInts, SInts, flatI, flatI, by rw [upd_ne nwc.symm, upd_ne ncd]; exact hc, fun o3 ⟨cs, hcs, e3⟩ => ?_⟩⟩⟩
  subst e1 e2 e3
  have at_d : upd (upd (upd H d (.dK (drawKv lw lc r t))) lw (.lst (ws.map V.int))) lc (.lst (cs.map V.int)) d = some (.dK (drawKv lw lc r t)) := by
    rw [upd_ne ncd.symm, upd_ne nwd.symm, upd_same]
  refine ⟨d, lw, lc, r, t, ws, cs, z, rfl, hz0, hz1, ht0, by omega, at_d, by rw [upd_ne nwc, upd_same], upd_same, nwc, hws, fun kk r' t' ws' H' k0 k1 t0 t1 hl hd' hw' hc' rest => ?_⟩
  refine ⟨_, ⟨cs, hcs, rfl⟩, hc', _, ⟨ws', hl, rfl⟩, by rw [upd_ne nwc]; exact hw', _, ⟨r', t', t0, by omega, rfl⟩, by rw [upd_ne nwd.symm, upd_ne ncd.symm]; exact hd', k _ _ k0 k1 (fun b o nb e => ?_) ?_⟩
  · rw [upd_ne nb]
    by_cases hb : b = lw
    · subst hb
      rw [upd_same, ← hw]
      exact e
    · rw [upd_ne hb]
      by_cases hb2 : b = lc
      · subst hb2
        rw [upd_same, ← hc]
        exact e
      · rw [upd_ne hb2]
        refine rest b o nb hb ?_
        rw [upd_ne hb2, upd_ne hb, upd_ne nb]
        exact e
  · refine ⟨m + 1, lw, lc, by omega, nwd, ncd, nwc, upd_same, ?_, ?_⟩
    · rw [upd_ne nwd, upd_same]
    · rw [upd_ne ncd, upd_ne nwc.symm, upd_same]

def spBegunC (K : PySem.W.Frag) : Sp := fun vs H Q _ => ∃ (a : Addr) (ns : List Int), vs = [.ref a] ∧ SqL K H a (ns.map V.int) ∧ ns.length ≤ 63 ∧
  ∀ (d lw lc : Addr) (ws cs : List Int) (H' : Hp), Same H H' → H d = none → lw ≠ lc → ws.length ≤ 100 → cs.length ≤ 100 → H' d = some (.dK (drawKv lw lc 0 0)) → H' lw = some (.lst (ws.map V.int)) → H' lc = some (.lst (cs.map V.int)) →
    H lw = none → H lc = none → Q (.ref d) H'
theorem has_begunC (T : Tx K mg) : Has P w K mg base "_law_begun" 1 ["_law_script"] (spBegunC K) := by
  refine has_of (k := 0) (g_law_begun T) (d_law_begun T) sc_law_begun (fun _ _ _ _ _ _ us hl => match us, hl with | [_], _ => rfl) (fun vs H Q E h => ?_) (fun cdv A outer s H vs Q E hr h => ?_)
  · obtain ⟨a, ns, rfl, _⟩ := h
    rfl
  · obtain ⟨a, ns, rfl, hS, hlen, k⟩ := h
    have hu := hu_of hr
    refine ⟨_, (pss_cons (ps_setLc (i := 1) (own := [("_law_cell", 2)]) (g := gName 2) (by rfl) sc_law_begun.nd rfl rfl (sw_true rfl rfl rfl (by decide +kernel)) (pi_list (pv 0)) (blkOk_by (own := [("_law_cell", 2)]) (N := N_law_begun) (sc := defScope s_law_begun) (by decide +kernel)) (fun _ _ _ _ _ => (pg_name (i := 2) sc_law_begun.nd rfl (Or.inl rfl))) (fun _ _ _ _ _ => (pts_one (pt_cmpR op_ge (pe_callB call_abs (by rfl) (m_abs T) boot_abs (pa_cons (pv 2) pa_nil)) (pe_op op_pow pe_int pe_int) (nomark _)))) (fun _ _ _ _ _ => (pe_op op_sub (pe_callB call_abs (by rfl) (m_abs T) boot_abs (pa_cons (pv 2) pa_nil)) (pe_op op_pow pe_int pe_int)))) (pss_one (ps_ret (pe_disp (pps_cons pe_str (pv 1) (pps_cons pe_str (pe_lc (own := [("_law_cell", 2)]) (g := gName 2) (tt := tYes) (by rfl) sc_law_begun.nd (pi_list (pv 0)) (blkOk_by (own := [("_law_cell", 2)]) (N := N_law_begun) (sc := defScope s_law_begun) (by decide +kernel)) (fun _ _ _ _ _ => (pg_name (i := 2) sc_law_begun.nd rfl (Or.inl rfl))) (fun _ _ _ _ _ => pts_nil) (fun _ _ _ _ _ => (pe_op op_mod (pe_callTy call_int1 (by rfl) (m_int T) boot_int (pa_cons (pe_callB call_abs (by rfl) (m_abs T) boot_abs (pa_cons (pv 2) pa_nil)) pa_nil)) pe_int))) (pps_cons pe_str pe_int (pps_cons pe_str pe_int pps_nil)))) (by rfl) (by rfl) (fun z => by cases z) (by decide))))), ?_⟩
    refine ⟨_, rfl, a, rfl, ⟨_, hS⟩, fun lw hlw => lc_list (K := K) (a := a) (xs := ns.map V.int) (fun i H' => ∃ acc : List Int, acc.length ≤ i ∧ H' = upd H lw (.lst (acc.map V.int))) ⟨[], Nat.le_refl _, rfl⟩ ?_ ?_ ?_⟩
    · rintro i H' _ ⟨acc, _, rfl⟩
      exact (same_new hlw).seq hS
    · rintro i x H' hi ⟨acc, hacc, rfl⟩
      obtain ⟨c, rfl, _⟩ := ints_at hi
      have hi2 : i < ns.length := by
        have q := (List.getElem?_eq_some_iff.mp hi).1
        rw [List.length_map] at q
        exact q
      refine ⟨rfl, ?_⟩
      refine ⟨_, rfl, _, rfl, _, _, rfl, rfl, ⟨by decide, by decide, by decide⟩, _, _, rfl, rfl, _, rfl, ?_⟩
      refine ite2 (fun _ => ?_) (fun _ => ⟨acc, by omega, rfl⟩)
      refine ⟨_, rfl, _, rfl, _, _, rfl, rfl, ⟨by decide, by decide, by decide⟩, _, _, rfl, rfl, _, upd_same, ?_, ?_⟩
      · rw [List.length_map]
        exact Nat.lt_of_le_of_lt (by omega : acc.length ≤ 63) (by decide)
      · refine ⟨acc ++ [(if c < 0 then -c else c) - 10 ^ Int.toNat 18], ?_, ?_⟩
        · rw [List.length_append, List.length_singleton]
          omega
        · rw [upd_upd, List.map_append]
          rfl
    · rintro H' ⟨ws, hws, rfl⟩
      rw [List.length_map] at hws
      intro d hd
      have nld : lw ≠ d := fun z => by
        rw [← z, upd_same] at hd
        cases hd
      have hd0 : H d = none := by
        rw [upd_ne nld.symm] at hd
        exact hd
      have s1 : Same H (upd (upd H lw (.lst (ws.map V.int))) d (.dK [])) := same_upd (same_new hlw) hd0
      refine ⟨_, rfl, _, rfl, a, rfl, ⟨_, s1.seq hS⟩, fun lc hlc => lc_list (K := K) (a := a) (xs := ns.map V.int) (fun i H' => ∃ acc : List Int, acc.length ≤ i ∧ H' = upd (upd (upd H lw (.lst (ws.map V.int))) d (.dK [])) lc (.lst (acc.map V.int))) ⟨[], Nat.le_refl _, rfl⟩ ?_ ?_ ?_⟩
      · rintro i H' _ ⟨acc, _, rfl⟩
        exact (same_new hlc).seq (s1.seq hS)
      · rintro i x H' hi ⟨acc, hacc, rfl⟩
        obtain ⟨c, rfl, _⟩ := ints_at hi
        have hi2 : i < ns.length := by
          have q := (List.getElem?_eq_some_iff.mp hi).1
          rw [List.length_map] at q
          exact q
        refine ⟨rfl, yes_ ⟨_, rfl, _, rfl, .inl ⟨_, rfl, _, _, rfl, rfl, (by show (0 : Int) < 2147483629; decide), _, upd_same, ?_, ?_⟩⟩⟩
        · rw [List.length_map]
          exact Nat.lt_of_le_of_lt (by omega : acc.length ≤ 63) (by decide)
        · refine ⟨acc ++ [(if c < 0 then -c else c) % 2147483629], ?_, ?_⟩
          · rw [List.length_append, List.length_singleton]
            omega
          · rw [upd_upd, List.map_append]
            rfl
      · rintro H' ⟨cs, hcs, rfl⟩
        rw [List.length_map] at hcs
        have ncd : lc ≠ d := fun z => by
          rw [z, upd_same] at hlc
          cases hlc
        have ncw : lc ≠ lw := fun z => by
          rw [z, upd_ne nld, upd_same] at hlc
          cases hlc
        have hc0 : H lc = none := by
          rw [upd_ne ncd, upd_ne ncw] at hlc
          exact hlc
        refine ⟨by rw [upd_ne ncd.symm, upd_same], [(.inr "wide", .ref lw), (.inr "cells", .ref lc), (.inr "rest", .int 0), (.inr "turn", .int 0)], rfl, (by show 4 ≤ 15; decide), ?_⟩
        refine k d lw lc ws cs _ (same_upd (same_upd s1 hc0) hd0) hd0 ncw.symm (by omega) (by omega) upd_same ?_ ?_ hlw hc0
        · rw [upd_ne nld, upd_ne ncw.symm, upd_ne nld, upd_same]
        · rw [upd_ne ncd, upd_same]
def spBegun (P : Program) (w : World) (K : PySem.W.Frag) : Sp := fun vs H Q _ => ∃ (a : Addr) (ns : List Int), vs = [.ref a] ∧ SqL K H a (ns.map V.int) ∧ ns.length ≤ 63 ∧ ∀ (d : Addr) (H' : Hp), Same H H' → H d = none → Dr P w 0 H' d → Q (.ref d) H'
theorem has_begun (T : Tx K mg) : Has P w K mg base "_law_begun" 1 ["_law_script"] (spBegun P w K) := by
  refine Has.close (Has.close (Has.close (has_begunC T) (fun vs H Q E h => h)) (fun vs H Q E h => h)) fun vs H Q E h => ?_
  obtain ⟨a, ns, rfl, hS, hlen, k⟩ := h
  refine ⟨a, ns, rfl, hS, hlen, fun d lw lc ws cs H' sm hd nwc hws hcs h1 h2 h3 hw0 hc0 => ?_⟩
  have nwd : lw ≠ d := ne_of h2 h1 (by intro z; cases z)
  have ncd : lc ≠ d := ne_of h3 h1 (by intro z; cases z)
  refine ⟨lc, SInts, _, flatI, ⟨cs, hcs, rfl⟩, h3, lw, SInts, _, flatI, ⟨ws, hws, rfl⟩, by rw [upd_ne nwc]; exact h2, d, SDraw 0 lw lc, _, flatD, ⟨0, 0, by decide, by decide, rfl⟩, by rw [upd_ne nwd.symm, upd_ne ncd.symm]; exact h1, ?_⟩
  refine k d _ (same_upd (same_upd (same_upd sm hc0) hw0) hd) hd ⟨0, lw, lc, Nat.le_refl _, nwd, ncd, nwc, upd_same, ?_, ?_⟩
  · rw [upd_ne nwd, upd_same]
  · rw [upd_ne ncd, upd_ne nwc.symm, upd_same]

theorem Dr.at_ {n : Nat} {H : Hp} {d b : Addr} {o : HO} (h : Dr P w n H d) (e : H b = some o) (ne : ∀ φ, o ≠ .ext φ) : b ≠ d := fun z => by
  obtain ⟨k, lw, lc, h1, h2, h3, h4, h5, h6, h7⟩ := h
  rw [z, h5] at e
  exact ne _ (Option.some.inj e).symm
theorem Dr.kp {n : Nat} {H H' : Hp} {d : Addr} (h : Dr P w n H d) (sm : SmD d H H') : Kp H H' := fun b o ne e => sm b o (h.at_ e ne) e
theorem Dr.live {n : Nat} {H : Hp} {d b : Addr} (h : Dr P w n H d) (e : H b = none) : b ≠ d := fun z => by
  obtain ⟨k, lw, lc, h1, h2, h3, h4, h5, h6, h7⟩ := h
  rw [z, h5] at e
  cases e
/-- a drawn item of a list, a drawn sign of a text -/
def spPick (P : Program) (w : World) (K : PySem.W.Frag) : Sp := fun vs H Q _ => ∃ (n : Nat) (d : Addr), n < 1099511627776 ∧ Dr P w n H d ∧
  ((∃ (p : Addr) (xs : List V), vs = [.ref d, .ref p] ∧ SqL K H p xs ∧ 0 < xs.length ∧ xs.length < 1073741824 ∧ ∀ (i : Nat) (v : V) (H' : Hp), xs[i]? = some v → SmD d H H' → Dr P w (n + 1) H' d → Q v H') ∨
   (∃ (z : Str), vs = [.ref d, .str z] ∧ 0 < z.length ∧ z.length < 1000000 ∧ ∀ (c : Nat) (H' : Hp), c ∈ z.cps.toList → SmD d H H' → Dr P w (n + 1) H' d → Q (.str ⟨#[c]⟩) H'))
theorem atI_of {α : Type} {xs : List α} {k : Int} (h0 : 0 ≤ k) (h1 : k < xs.length) : ∃ v, atI xs k = some v ∧ xs[k.toNat]? = some v := by
  obtain ⟨m, rfl⟩ : ∃ m : Nat, k = m := ⟨k.toNat, by omega⟩
  have lt : m < xs.length := by omega
  exact ⟨xs[m], atI_nat (List.getElem?_eq_getElem lt), List.getElem?_eq_getElem lt⟩
theorem has_pick (T : Tx K mg) : Has P w K mg base "_law_pick" 3 ["_law_draw", "_law_some"] (spPick P w K) := by
  have h_law_take : Has P w K mg base "_law_take" 2 ["_law_draw", "_law_size"] (spTake P w) := has_take T
  refine has_of (k := 2) (g_law_pick T) (d_law_pick T) sc_law_pick (fun _ _ _ _ _ _ us hl => match us, hl with | [_, _], _ => rfl) (fun vs H Q E h => ?_) (fun cdv A outer s H vs Q E hr h => ?_)
  · obtain ⟨n, d, _, _, ⟨p, xs, rfl, _⟩ | ⟨z, rfl, _⟩⟩ := h
    all_goals rfl
  · obtain ⟨n, d, hn, dr, h⟩ := h
    have hu := hu_of hr
    refine ⟨_, (pss_one (ps_ret (pe_ix ix_seq (pv 1) (pe_has h_law_take (hr.mono (by decide)) rfl (pa_cons (pv 0) (pa_cons (pe_callB call_len (by rfl) (m_len T) boot_len (pa_cons (pv 1) pa_nil)) pa_nil))) (fun _ _ => rfl)))), ?_⟩
    rcases h with ⟨p, xs, rfl, hS, h0, h1, k⟩ | ⟨z, rfl, h0, h1, k⟩
    · refine ⟨_, rfl, _, rfl, _, rfl, _, xs.length, rfl, .inl ⟨_, hS, rfl⟩, ?_⟩
      refine ⟨n, d, _, rfl, by omega, by omega, hn, dr, fun i H' i0 i1 sm dr' => ?_⟩
      obtain ⟨v, e1, e2⟩ := atI_of i0 i1
      exact .inl ⟨p, xs, i, v, rfl, rfl, (dr.kp sm).l hS, e1, k _ _ _ e2 sm dr'⟩
    · refine ⟨_, rfl, _, rfl, _, rfl, _, z.length, rfl, ⟨Nat.le_trans (Nat.le_of_lt h1) (by decide), rfl⟩, ?_⟩
      refine ⟨n, d, _, rfl, by omega, by omega, hn, dr, fun i H' i0 i1 sm dr' => ?_⟩
      have le : z.cps.toList.length = z.length := by
        unfold Str.length
        simp
      obtain ⟨v, e1, e2⟩ := atI_of (xs := z.cps.toList) i0 (by rw [le]; exact i1)
      exact .inr (.inr ⟨z, i, v, rfl, rfl, Nat.le_trans (Nat.le_of_lt h1) (by decide), e1, k _ _ (List.mem_of_getElem? e2) sm dr'⟩)
theorem erase_perm {α : Type} : ∀ (xs : List α) (i : Nat) (v : α), xs[i]? = some v → (v :: xs.eraseIdx i).Perm xs
  | [], i, v, h => by simp at h
  | x :: r, 0, v, h => by
    simp only [List.getElem?_cons_zero, Option.some.injEq] at h
    subst h
    exact List.Perm.refl _
  | x :: r, i + 1, v, h => by
    simp only [List.getElem?_cons_succ] at h
    exact (List.Perm.swap _ _ _).trans (List.Perm.cons x (erase_perm r i v h))
theorem Dr.put {n : Nat} {H : Hp} {d b : Addr} {o o' : HO} (h : Dr P w n H d) (e : H b = some o) (ne : ∀ φ, o ≠ .ext φ) : Dr P w n (upd H b o') d := by
  obtain ⟨k, lw, lc, h1, h2, h3, h4, h5, h6, h7⟩ := h
  have at_ : ∀ c φ, H c = some (.ext φ) → c ≠ b := fun c φ q z => by
    rw [z, e] at q
    exact ne _ (Option.some.inj q)
  exact ⟨k, lw, lc, h1, h2, h3, h4, by rw [upd_ne (at_ _ _ h5)]; exact h5, by rw [upd_ne (at_ _ _ h6)]; exact h6, by rw [upd_ne (at_ _ _ h7)]; exact h7⟩
/-- a new list of the same items -/
def spShuffled (P : Program) (w : World) (K : PySem.W.Frag) : Sp := fun vs H Q _ => ∃ (n : Nat) (d p : Addr) (xs : List V), vs = [.ref d, .ref p] ∧ n + xs.length < 1099511627776 ∧ Dr P w n H d ∧ SqL K H p xs ∧ xs.length ≤ 100000 ∧
  ∀ (l : Addr) (ys : List V) (H' : Hp), ys.Perm xs → H l = none → SmD d H H' → Dr P w (n + xs.length) H' d → H' l = some (.lst ys) → Q (.ref l) H'
theorem has_shuffled (T : Tx K mg) : Has P w K mg base "_law_shuffled" 3 ["_law_draw", "_law_some"] (spShuffled P w K) := by
  have h_law_take : Has P w K mg base "_law_take" 2 ["_law_draw", "_law_size"] (spTake P w) := has_take T
  refine has_of (k := 2) (g_law_shuffled T) (d_law_shuffled T) sc_law_shuffled (fun _ _ _ _ _ _ us hl => match us, hl with | [_, _], _ => rfl) (fun vs H Q E h => ?_) (fun cdv A outer s H vs Q E hr h => ?_)
  · obtain ⟨n, d, p, xs, rfl, _⟩ := h
    rfl
  · obtain ⟨n, d, p, xs, rfl, hn, dr, hS, hz, k⟩ := h
    have hu := hu_of hr
    refine ⟨_, (pss_cons (ps_par (i := 2) (j := 3) (by rfl) sc_law_shuffled.nd rfl rfl (by decide) rfl rfl (pa_cons (pe_callTy call_list_of (by rfl) (m_list T) boot_list (pa_cons (pv 1) pa_nil)) (pa_cons (pe_lst pa_nil) pa_nil)) (by rfl)) (pss_cons (ps_while PassesOwn.never (pt_cmpR (op_neNil hr.units) (pv 2) (pe_lst pa_nil) (nomark _)) (pss_one (ps_expr (pe_bm PySem.F.plainAttrs_list PySem.F.slot_list_append PySem.F.type_list_append mt_append (pv 3) (pa_cons (pe_bm PySem.F.plainAttrs_list PySem.F.slot_list_pop PySem.F.type_list_pop mt_popAt (pv 2) (pa_cons (pe_has h_law_take (hr.mono (by decide)) rfl (pa_cons (pv 0) (pa_cons (pe_callB call_len_seq (by rfl) (m_len T) boot_len (pa_cons (pv 2) pa_nil)) pa_nil))) pa_nil)) pa_nil))))) (pss_one (ps_ret (pv 3))))), ?_⟩
    refine ⟨_, rfl, p, _, rfl, .inl hS, fun l hl => ⟨by decide, fun f hf => ⟨_, _, rfl, ?_⟩⟩⟩
    have nlf : f ≠ l := fun z => by
      rw [z, upd_same] at hf
      cases hf
    have hf0 : H f = none := by
      rw [upd_ne nlf] at hf
      exact hf
    refine ⟨fun m σ H' => σ = [some (.ref d), some (.ref p), some (.ref l), some (.ref f)] ∧ ∃ ls fs : List V, ls.length = m ∧ m ≤ xs.length ∧ (ls ++ fs).Perm xs ∧ H' l = some (.lst ls) ∧ H' f = some (.lst fs) ∧ SmD d H H' ∧ Dr P w (n + (xs.length - m)) H' d, ⟨xs.length, rfl, xs, [], rfl, Nat.le_refl _, by simp, by rw [upd_ne nlf.symm, upd_same], upd_same, .of (same_upd (same_new hl) hf0), ?_⟩, ?_⟩
    · rw [Nat.sub_self]
      exact dr.same (same_upd (same_new hl) hf0)
    · rintro m σ H' ⟨rfl, ls, fs, hm, hmx, pm, h1, h2, sm, dr'⟩
      refine ⟨_, rfl, by decide, fun e he => ?_⟩
      have s1 : Same H' (upd H' e (.lst [])) := same_new he
      refine ⟨l, e, ls, rfl, rfl, SqL.of (s1 _ _ h1), SqL.of upd_same, _, rfl, ?_⟩
      cases ls with
      | nil =>
        refine iteF ⟨_, rfl, k f fs _ (by simpa using pm) hf0 (sm.trans (.of s1)) ?_ (s1 _ _ h2)⟩
        have e0 : m = 0 := by
          rw [← hm]
          rfl
        rw [e0] at dr'
        exact dr'.same s1
      | cons y ys =>
        refine iteT ⟨fun σ2 H2 => ∃ m', m' < m ∧ σ2 = [some (.ref d), some (.ref p), some (.ref l), some (.ref f)] ∧ ∃ ls fs : List V, ls.length = m' ∧ m' ≤ xs.length ∧ (ls ++ fs).Perm xs ∧ H2 l = some (.lst ls) ∧ H2 f = some (.lst fs) ∧ SmD d H H2 ∧ Dr P w (n + (xs.length - m')) H2 d, fun σ2 H2 q => q, ?_⟩
        have hm' : ys.length + 1 = m := hm
        refine ⟨_, rfl, .inl ⟨rfl, _, SqL.of (s1 _ _ h2)⟩, _, rfl, .inl ⟨rfl, _, SqL.of (s1 _ _ h1)⟩, _, rfl, _, rfl, l, _, rfl, .inl (SqL.of (s1 _ _ h1)), ?_⟩
        refine ⟨n + (xs.length - m), d, _, rfl, by simp only [List.length_cons]; omega, by simp only [List.length_cons]; omega, by omega, dr'.same s1, fun i H2 i0 i1 sm2 dr2 => ?_⟩
        have kp := (dr'.same s1).kp sm2
        have h1' := kp.lst (s1 _ _ h1)
        have h2' := kp.lst (s1 _ _ h2)
        obtain ⟨v, e1, e2⟩ := atI_of (xs := y :: ys) i0 i1
        have ei : i = ((i.toNat : Nat) : Int) := by omega
        have lt : i.toNat < (y :: ys).length := by omega
        refine ⟨l, _, i, i.toNat, v, rfl, rfl, h1', by omega, by omega, by rw [ei]; exact sIx_nat (by simpa using lt), e2, ?_⟩
        refine ⟨f, fs, v, rfl, rfl, by rw [upd_ne nlf]; exact h2', ?_, ?_⟩
        · have := pm.length_eq
          rw [List.length_append] at this
          exact Nat.lt_of_le_of_lt (by omega : fs.length ≤ 100000) (by decide)
        · have nld : l ≠ d := dr.live hl
          have nfd : f ≠ d := dr.live hf0
          refine ⟨ys.length, by omega, rfl, (y :: ys).eraseIdx i.toNat, fs ++ [v], ?_, by omega, ?_, by rw [upd_ne nlf.symm, upd_same], upd_same, ?_, ?_⟩
          · rw [List.length_eraseIdx, if_pos lt]
            rfl
          · refine List.Perm.trans ?_ pm
            have q1 := erase_perm _ _ _ e2
            refine List.Perm.trans ?_ (q1.append_right fs)
            rw [← List.append_assoc]
            refine (List.perm_append_comm).trans ?_
            simp
          · intro b o nb e
            rw [upd_ne (ne_of_none e hf0), upd_ne (ne_of_none e hl)]
            exact sm2 b o nb (s1 _ _ (sm b o nb e))
          · exact ((dr2.put h1' (fun _ z => by cases z)).put (by rw [upd_ne nlf]; exact h2') (fun _ z => by cases z)).mono (by omega)
end

end HL

namespace HL
open PySem PySem.Spec PyProof.Rows L2

section
variable {P : Program} {w : World} {K : PySem.W.Frag} {mg : Str → Option Value} {base : Heap}
/-! ### books -/
def spOneOf (K : PySem.W.Frag) : Sp := fun vs H Q _ => ∃ (v : V) (p : Addr) (ws : List Str), vs = [v, .ref p] ∧ SqT K H p (ws.map V.str) ∧
  ((∃ z : Str, v = .str z ∧ Q (.bl (decide (z ∈ ws))) H) ∨ (∃ t, TyX K H v t ∧ PySem.W.kitOne K t (.type "str") = some false ∧ Q (.bl false) H))
theorem has_oneOf (T : Tx K mg) : Has P w K mg base "is_one_of" 1 ["thing", "words"] (spOneOf K) := by
  refine has_of (k := 0) (g_is_one_of T) (d_is_one_of T) sc_is_one_of (fun _ _ _ _ _ _ us hl => match us, hl with | [_, _], _ => rfl) (fun vs H Q E h => ?_) (fun cdv A outer s H vs Q E hr h => ?_)
  · obtain ⟨v, p, ws, rfl, _⟩ := h
    rfl
  · obtain ⟨v, p, ws, rfl, hp, h⟩ := h
    refine ⟨_, (pss_one (ps_ret (pe_and (pe_callB call_isi (by rfl) (m_isinstance T) boot_isinstance (pa_cons (pv 0) (pa_cons (pe_bltn (v := .ty "str") (by rfl) (m_str T) boot_str rfl) pa_nil))) (pe_one (pe_cmpR op_in_seq (pv 0) (pv 1) rfl))))), ?_⟩
    rcases h with ⟨z, rfl, q⟩ | ⟨t, ty, kt, q⟩
    · refine ⟨_, rfl, _, _, _, _, true, rfl, .ty "str", .base (.str z), rfl, ?_⟩
      refine ⟨_, rfl, iteT ⟨_, rfl, _, rfl, p, _, rfl, .inr hp, rfl, flat_strs ws, ?_⟩⟩
      show Q (.bl (inV (.str z) (ws.map V.str))) H
      rw [inV_strs]
      exact q
    · exact ⟨_, rfl, _, _, _, _, false, rfl, .ty "str", ty, kt, _, rfl, iteF q⟩
def bars6 : List Str := ["each-shorter", "each-use", "held-shorter", "held-use", "use-each", "use-held"]
/-- rows of texts: right bars or not -/
def spBars (K : PySem.W.Frag) : Sp := fun vs H Q _ => ∃ (p : Addr) (zs : List Str), vs = [.ref p] ∧ (H p = some (.lst (zs.map V.str)) ∨ SqT K H p (zs.map V.str)) ∧ zs.length ≤ 1000 ∧
  ∀ H', Same H H' → Q (.bl (decide ((∀ z ∈ zs, z ∈ bars6) ∧ zs.Nodup))) H'
theorem mapkV (zs : List Str) : (zs.map Sum.inr : List Key).map kV = zs.map V.str := by
  rw [List.map_map]
  rfl
theorem nodup_inr (zs : List Str) : (zs.map Sum.inr : List Key).Nodup ↔ zs.Nodup := by
  unfold List.Nodup
  rw [List.pairwise_map]
  simp
theorem has_bars (T : Tx K mg) : Has P w K mg base "are_bars" 2 ["thing"] (spBars K) := by
  have h_is_one_of : Has P w K mg base "is_one_of" 1 ["thing", "words"] (spOneOf K) := has_oneOf T
  refine has_of (k := 1) (g_are_bars T) (d_are_bars T) sc_are_bars (fun _ _ _ _ _ _ us hl => match us, hl with | [_], _ => rfl) (fun vs H Q E h => ?_) (fun cdv A outer s H vs Q E hr h => ?_)
  · obtain ⟨p, zs, rfl, _⟩ := h
    rfl
  · obtain ⟨p, zs, rfl, hp, hz, k⟩ := h
    have hu := hu_of hr
    have hz2 : (zs.map V.str).length ≤ sizeLine := by
      rw [List.length_map]
      exact Nat.le_trans hz (by decide)
    have key : ∀ H' : Hp, Same H H' → ∀ (b1 : Bool), b1 = decide (∀ z ∈ zs, z ∈ bars6) → (b1 = false → Q (.bl false) H') ∧ (b1 = true → Q (.bl (decide (((met (zs.map Sum.inr : List Key)).length : Int) = (zs.length : Nat)))) H') := by
      intro H' sm b1 e
      have q := k H' sm
      refine ⟨fun e2 => ?_, fun e2 => ?_⟩
      · have ne : ¬ ((∀ z ∈ zs, z ∈ bars6) ∧ zs.Nodup) := fun h => by
          rw [e2] at e
          exact absurd h.1 (of_decide_eq_false e.symm)
        rw [decide_eq_false ne] at q
        exact q
      · have h1 : ∀ z ∈ zs, z ∈ bars6 := of_decide_eq_true (e.symm.trans e2)
        have h2 : (((met (zs.map Sum.inr : List Key)).length : Int) = (zs.length : Nat)) ↔ ((∀ z ∈ zs, z ∈ bars6) ∧ zs.Nodup) := by
          have m := met_nodup (zs.map Sum.inr : List Key)
          rw [List.length_map, nodup_inr] at m
          constructor
          · intro h
            exact ⟨h1, m.mp (by exact_mod_cast h)⟩
          · intro h
            exact_mod_cast m.mpr h.2
        rw [decide_eq_decide.mpr h2]
        exact q
    have all1 : ∀ ws : List Str, (((ws.map V.str).map (fun v => match v with | .str z => V.bl (decide (z ∈ bars6)) | _ => .non))) = (ws.map fun z => decide (z ∈ bars6)).map V.bl := fun ws => by
      rw [List.map_map, List.map_map]
      rfl
    have all2 : ∀ ws : List Str, (ws.map fun z => decide (z ∈ bars6)).all id = decide (∀ z ∈ ws, z ∈ bars6) := fun ws => by
      rw [List.all_map, Bool.eq_iff_iff, List.all_eq_true, decide_eq_true_iff]
      exact ⟨fun h z hz => of_decide_eq_true (h z hz), fun h z hz => decide_eq_true (h z hz)⟩
    rcases hp with hp | hp
    · refine ⟨_, (pss_cons (ps_if (PW.pt (pw_or (pt_not (pt_val (pe_callB call_isiT (by rfl) (m_isinstance T) boot_isinstance (pa_cons (pv 0) (pa_cons (pe_tup (pa_cons (pe_bltn (v := .ty "list") (by rfl) (m_list T) boot_list rfl) (pa_cons (pe_bltn (v := .ty "tuple") (by rfl) (m_tuple T) boot_tuple rfl) pa_nil))) pa_nil))))) (pw_or1 (pt_not (pt_val (pe_callB (cr_all rfl) (by rfl) (m_all T) boot_all (pa_cons (pe_lc (own := [("word", 1)]) (g := gName 1) (tt := tYes) (by rfl) sc_are_bars.nd (pi_list (pv 0)) (blkOk_by (own := [("word", 1)]) (N := N_are_bars) (sc := defScope s_are_bars) (by decide +kernel)) (fun _ _ _ _ _ => (pg_name (i := 1) sc_are_bars.nd rfl (Or.inl rfl))) (fun _ _ _ _ _ => pts_nil) (fun _ _ _ _ _ => (pe_has h_is_one_of (hr.mono (by decide)) rfl (pa_cons (pv 1) (pa_cons (pe_glob (v := .ref (He.ga K "BARS")) rfl (g_BARS T) rfl) pa_nil))))) pa_nil))))))) (pss_one (ps_ret pe_bl)) pss_nil) (pss_one (ps_ret (pe_cmpR op_eq (pe_lenSetK (by rfl) (m_len T) (by rfl) (m_set T) (pv 0)) (pe_callB call_len_seq (by rfl) (m_len T) boot_len (pa_cons (pv 0) pa_nil)) (nomark _))))), ?_⟩
      refine ⟨_, rfl, by decide, fun tp htp => ⟨_, tp, _, _, _, true, rfl, upd_same, .cons (.ty "list") (.cons (.ty "tuple") .nil), .base (.lst ((same_new htp) _ _ hp)), rfl, true, rfl, ?_⟩⟩
      refine iteF ⟨_, rfl, p, rfl, ⟨_, SqL.of ((same_new htp) _ _ hp)⟩, fun D hD => lcl_pure (fun _ => true) (fun v => match v with | .str z => V.bl (decide (z ∈ bars6)) | _ => .non) hD (SqL.of ((same_new htp) _ _ hp)) hz2 ?_ ?_⟩
      · intro i x H' Q' R hx sm q1 _
        obtain ⟨z, hz, rfl⟩ := List.mem_map.mp (List.mem_of_getElem? hx)
        exact ⟨rfl, yes_ ⟨_, rfl, _, _, bars6, rfl, c_BARS T H', .inl ⟨z, rfl, q1 rfl⟩⟩⟩
      · rw [filter_yes, all1]
        refine ⟨D, _, rfl, SqL.of upd_same, _, rfl, ?_⟩
        rw [all2]
        have sm : Same H (upd (upd H tp (.tup [.ty "list", .ty "tuple"])) D (.lst ((zs.map fun z => decide (z ∈ bars6)).map V.bl))) := (same_new htp).trans (same_new hD)
        obtain ⟨k1, k2⟩ := key _ sm _ rfl
        cases e : decide (∀ z ∈ zs, z ∈ bars6) with
        | false => exact iteT (k1 e)
        | true =>
          refine iteF ⟨_, rfl, p, _, rfl, .inl (by rw [mapkV]; exact SqL.of (sm _ _ hp)), by rw [List.length_map]; omega, _, rfl, p, _, rfl, .inl (SqL.of (sm _ _ hp)), ?_⟩
          rw [List.length_map]
          refine ⟨rfl, ?_⟩
          have q := k2 e
          rw [show decide (V.int ((met (zs.map Sum.inr : List Key)).length : Nat) = V.int (zs.length : Nat)) = decide (((met (zs.map Sum.inr : List Key)).length : Int) = (zs.length : Nat)) from decide_eq_decide.mpr ⟨fun z => V.int.inj z, fun z => by rw [z]⟩]
          exact q
    · refine ⟨_, (pss_cons (ps_if (PW.pt (pw_or (pt_not (pt_val (pe_callB call_isiT (by rfl) (m_isinstance T) boot_isinstance (pa_cons (pv 0) (pa_cons (pe_tup (pa_cons (pe_bltn (v := .ty "list") (by rfl) (m_list T) boot_list rfl) (pa_cons (pe_bltn (v := .ty "tuple") (by rfl) (m_tuple T) boot_tuple rfl) pa_nil))) pa_nil))))) (pw_or1 (pt_not (pt_val (pe_callB (cr_all rfl) (by rfl) (m_all T) boot_all (pa_cons (pe_lc (own := [("word", 1)]) (g := gName 1) (tt := tYes) (by rfl) sc_are_bars.nd (pi_tup (pv 0)) (blkOk_by (own := [("word", 1)]) (N := N_are_bars) (sc := defScope s_are_bars) (by decide +kernel)) (fun _ _ _ _ _ => (pg_name (i := 1) sc_are_bars.nd rfl (Or.inl rfl))) (fun _ _ _ _ _ => pts_nil) (fun _ _ _ _ _ => (pe_has h_is_one_of (hr.mono (by decide)) rfl (pa_cons (pv 1) (pa_cons (pe_glob (v := .ref (He.ga K "BARS")) rfl (g_BARS T) rfl) pa_nil))))) pa_nil))))))) (pss_one (ps_ret pe_bl)) pss_nil) (pss_one (ps_ret (pe_cmpR op_eq (pe_lenSetK (by rfl) (m_len T) (by rfl) (m_set T) (pv 0)) (pe_callB call_len_seq (by rfl) (m_len T) boot_len (pa_cons (pv 0) pa_nil)) (nomark _))))), ?_⟩
      refine ⟨_, rfl, by decide, fun tp htp => ⟨_, tp, _, _, _, true, rfl, upd_same, .cons (.ty "list") (.cons (.ty "tuple") .nil), ty_t (same_t (same_new htp) hp), rfl, true, rfl, ?_⟩⟩
      refine iteF ⟨_, rfl, p, rfl, ⟨_, same_t (same_new htp) hp⟩, fun D hD => lct_pure (fun _ => true) (fun v => match v with | .str z => V.bl (decide (z ∈ bars6)) | _ => .non) hD (same_t (same_new htp) hp) hz2 ?_ ?_⟩
      · intro i x H' Q' R hx sm q1 _
        obtain ⟨z, hz, rfl⟩ := List.mem_map.mp (List.mem_of_getElem? hx)
        exact ⟨rfl, yes_ ⟨_, rfl, _, _, bars6, rfl, c_BARS T H', .inl ⟨z, rfl, q1 rfl⟩⟩⟩
      · rw [filter_yes, all1]
        refine ⟨D, _, rfl, SqL.of upd_same, _, rfl, ?_⟩
        rw [all2]
        have sm : Same H (upd (upd H tp (.tup [.ty "list", .ty "tuple"])) D (.lst ((zs.map fun z => decide (z ∈ bars6)).map V.bl))) := (same_new htp).trans (same_new hD)
        obtain ⟨k1, k2⟩ := key _ sm _ rfl
        cases e : decide (∀ z ∈ zs, z ∈ bars6) with
        | false => exact iteT (k1 e)
        | true =>
          refine iteF ⟨_, rfl, p, _, rfl, .inr (by rw [mapkV]; exact same_t sm hp), by rw [List.length_map]; omega, _, rfl, p, _, rfl, .inr (same_t sm hp), ?_⟩
          rw [List.length_map]
          refine ⟨rfl, ?_⟩
          have q := k2 e
          rw [show decide (V.int ((met (zs.map Sum.inr : List Key)).length : Nat) = V.int (zs.length : Nat)) = decide (((met (zs.map Sum.inr : List Key)).length : Int) = (zs.length : Nat)) from decide_eq_decide.mpr ⟨fun z => V.int.inj z, fun z => by rw [z]⟩]
          exact q
/-- a field that is right -/
def spNeed (K : PySem.W.Frag) : Sp := fun vs H Q _ => ∃ (f : V) (z : Str) (p : Addr) (ws : List Str), vs = [f, .str z, .ref p] ∧ SqT K H p (ws.map V.str) ∧ z ∈ ws ∧ Q .non H
theorem has_need (T : Tx K mg) : Has P w K mg base "need_field" 2 ["field", "thing", "words"] (spNeed K) := by
  have h_is_one_of : Has P w K mg base "is_one_of" 1 ["thing", "words"] (spOneOf K) := has_oneOf T
  refine has_of (k := 1) (g_need_field T) (d_need_field T) sc_need_field (fun _ _ _ _ _ _ us hl => match us, hl with | [_, _, _], _ => rfl) (fun vs H Q E h => ?_) (fun cdv A outer s H vs Q E hr h => ?_)
  · obtain ⟨f, z, p, ws, rfl, _⟩ := h
    rfl
  · obtain ⟨f, z, p, ws, rfl, hp, hz, q⟩ := h
    refine ⟨_, (pss_one (ps_if (pt_not (pt_val (pe_has h_is_one_of (hr.mono (by decide)) rfl (pa_cons (pv 1) (pa_cons (pv 2) pa_nil))))) (pss_one ps_never) pss_nil)), ?_⟩
    refine ⟨_, rfl, _, rfl, _, p, ws, rfl, hp, .inl ⟨z, rfl, ?_⟩⟩
    rw [decide_eq_true hz]
    exact ⟨true, rfl, iteF q⟩
end

section
variable {P : Program} {w : World} {K : PySem.W.Frag} {mg : Str → Option Value} {base : Heap}
/-! ### a new book -/
def held2 : List Str := ["home", "now"]
def each2 : List Str := ["now", "program"]
def lift2 : List Str := ["nothing", "kept"]
def ends3 : List Str := ["holder", "never", "scope"]
def work3 : List Str := ["own", "same", "wait"]
structure Bk where
  held : Str
  each : Str
  lifted : Str
  ends : Str
  works : Str
  bars : List Str
def Bk.fs (b : Bk) (t : Addr) : List (Str × V) := [("b_held", .str b.held), ("b_each", .str b.each), ("b_lifted", .str b.lifted), ("b_ends", .str b.ends), ("b_works", .str b.works), ("b_bars", .ref t)]
structure Bk.Ok (b : Bk) : Prop where
  h : b.held ∈ held2
  e : b.each ∈ each2
  l : b.lifted ∈ lift2
  n : b.ends ∈ ends3
  k : b.works ∈ work3
  r : ∀ z ∈ b.bars, z ∈ bars6
  d : b.bars.Nodup
theorem nodup_len {α : Type} [BEq α] [LawfulBEq α] : ∀ (l m : List α), l.Nodup → (∀ x ∈ l, x ∈ m) → l.length ≤ m.length
  | [], _, _, _ => Nat.zero_le _
  | x :: l, m, hd, hs => by
    obtain ⟨h1, h2⟩ := List.nodup_cons.mp hd
    have hx : x ∈ m := hs x List.mem_cons_self
    have q := nodup_len l (m.erase x) h2 fun y hy => (List.mem_erase_of_ne (fun e : y = x => h1 (by rw [← e]; exact hy))).mpr (hs y (List.mem_cons_of_mem _ hy))
    rw [List.length_erase_of_mem hx] at q
    have : 0 < m.length := List.length_pos_of_mem hx
    simp only [List.length_cons]
    omega
theorem Bk.Ok.few {b : Bk} (h : b.Ok) : b.bars.length ≤ 6 := nodup_len _ bars6 h.d h.r
def spInit (K : PySem.W.Frag) : Sp := fun vs H Q _ => ∃ (x dx p : Addr) (b : Bk), vs = [.ref x, .str b.held, .str b.each, .str b.lifted, .str b.ends, .str b.works, .ref p] ∧ H x = some (.ins (He.ga K "Book") dx []) ∧ b.Ok ∧
  (H p = some (.lst (b.bars.map V.str)) ∨ SqT K H p (b.bars.map V.str)) ∧
  ∀ (t : Addr) (ys : List Str) (H' : Hp), ys.Perm b.bars → sortedS ys = true → SmD x H H' → H' x = some (.ins (He.ga K "Book") dx (({ b with bars := ys } : Bk).fs t)) → H' t = some (.tup (ys.map V.str)) → Q .non H'
theorem fn_init (T : Tx K mg) : ∃ fd, FunD K "__init__" "Book.__init__" (defArgs s_Book_init) (defBody s_Book_init) (defScope s_Book_init) (dd_Book_init.dvs K) (dd_Book_init.kws K) (mAt "Book" "__init__" K) fd ∧
    FnOk P w K mg base CX0 3 (mAt "Book" "__init__" K) fd ["self", "held", "each", "lifted", "ends", "works", "bars"] (spInit K) := by
  have h_need_field : Has P w K mg base "need_field" 2 ["field", "thing", "words"] (spNeed K) := has_need T
  have h_are_bars : Has P w K mg base "are_bars" 2 ["thing"] (spBars K) := has_bars T
  obtain ⟨fd, F⟩ := d_Book_init T
  refine ⟨fd, F, F.ok sc_Book_init (fun vs H Q E h => ?_) fun cdv A outer s H vs Q E hr h => ?_⟩
  · obtain ⟨x, dx, p, b, rfl, _⟩ := h
    rfl
  · obtain ⟨x, dx, p, b, rfl, hx, ok, hp, k⟩ := h
    have hu := hu_of hr
    suffices h : ∃ t, PSs (cxOf CX0 P w K mg base N_Book_init "Book.__init__" (defScope s_Book_init) (mAt "Book" "__init__" K) cdv A outer s H E).nox (defBody s_Book_init) t ∧ t { nx := fun _ H' => Q .non H', rt := Q } (start N_Book_init [.ref x, .str b.held, .str b.each, .str b.lifted, .str b.ends, .str b.works, .ref p]) H by
      obtain ⟨t, h1, h2⟩ := h
      exact ⟨t, h1.nox, h2⟩
    refine ⟨_, (pss_cons (ps_expr (pe_has h_need_field (hr.mono (by decide)) rfl (pa_cons pe_str (pa_cons (pv 1) (pa_cons (pe_glob (v := .ref (He.ga K "HELD")) rfl (g_HELD T) rfl) pa_nil))))) (pss_cons (ps_expr (pe_has h_need_field (hr.mono (by decide)) rfl (pa_cons pe_str (pa_cons (pv 2) (pa_cons (pe_glob (v := .ref (He.ga K "EACH")) rfl (g_EACH T) rfl) pa_nil))))) (pss_cons (ps_expr (pe_has h_need_field (hr.mono (by decide)) rfl (pa_cons pe_str (pa_cons (pv 3) (pa_cons (pe_glob (v := .ref (He.ga K "LIFTED")) rfl (g_LIFTED T) rfl) pa_nil))))) (pss_cons (ps_expr (pe_has h_need_field (hr.mono (by decide)) rfl (pa_cons pe_str (pa_cons (pv 4) (pa_cons (pe_glob (v := .ref (He.ga K "ENDS")) rfl (g_ENDS T) rfl) pa_nil))))) (pss_cons (ps_expr (pe_has h_need_field (hr.mono (by decide)) rfl (pa_cons pe_str (pa_cons (pv 5) (pa_cons (pe_glob (v := .ref (He.ga K "WORKS")) rfl (g_WORKS T) rfl) pa_nil))))) (pss_cons (ps_if (pt_not (pt_val (pe_has h_are_bars (hr.mono (by decide)) rfl (pa_cons (pv 6) pa_nil)))) (pss_one ps_never) pss_nil) (pss_cons (ps_fld (pv 0) (pv 1) rfl) (pss_cons (ps_fld (pv 0) (pv 2) rfl) (pss_cons (ps_fld (pv 0) (pv 3) rfl) (pss_cons (ps_fld (pv 0) (pv 4) rfl) (pss_cons (ps_fld (pv 0) (pv 5) rfl) (pss_one (ps_fld (pv 0) (pe_callTy call_tuple_of (by rfl) (m_tuple T) boot_tuple (pa_cons (pe_callB cr_sortedQ (by rfl) (m_sorted T) boot_sorted (pa_cons (pv 6) pa_nil)) pa_nil)) rfl))))))))))))), ?_⟩
    refine ⟨_, rfl, _, b.held, _, held2, rfl, c_HELD T H, ok.h, ?_⟩
    refine ⟨_, rfl, _, b.each, _, each2, rfl, c_EACH T H, ok.e, ?_⟩
    refine ⟨_, rfl, _, b.lifted, _, lift2, rfl, c_LIFTED T H, ok.l, ?_⟩
    refine ⟨_, rfl, _, b.ends, _, ends3, rfl, c_ENDS T H, ok.n, ?_⟩
    refine ⟨_, rfl, _, b.works, _, work3, rfl, c_WORKS T H, ok.k, ?_⟩
    refine ⟨_, rfl, p, b.bars, rfl, hp, Nat.le_trans ok.few (by decide), fun H1 sm => ?_⟩
    rw [decide_eq_true (show (∀ z ∈ b.bars, z ∈ bars6) ∧ b.bars.Nodup from ⟨ok.r, ok.d⟩)]
    refine ⟨true, rfl, iteF ?_⟩
    have C := cls_Book T
    refine ⟨_, rfl, _, rfl, x, _, dx, _, rfl, sm _ _ hx, C, na_Book_b_held T, by decide, ?_⟩
    refine ⟨_, rfl, _, rfl, x, _, dx, _, rfl, upd_same, C, na_Book_b_each T, (by show 1 < 1000; decide), ?_⟩
    refine ⟨_, rfl, _, rfl, x, _, dx, _, rfl, upd_same, C, na_Book_b_lifted T, (by show 2 < 1000; decide), ?_⟩
    refine ⟨_, rfl, _, rfl, x, _, dx, _, rfl, upd_same, C, na_Book_b_ends T, (by show 3 < 1000; decide), ?_⟩
    refine ⟨_, rfl, _, rfl, x, _, dx, _, rfl, upd_same, C, na_Book_b_works T, (by show 4 < 1000; decide), ?_⟩
    simp only [upd_upd]
    generalize hH2 : upd H1 x _ = H2
    have kx : ∀ b o, b ≠ x → H b = some o → H2 b = some o := fun b o nb e => by
      rw [← hH2, upd_ne nb]
      exact sm _ _ e
    have hp2 : SqL K H2 p (b.bars.map V.str) ∨ SqT K H2 p (b.bars.map V.str) := by
      rcases hp with hp | hp
      · exact .inl (SqL.of (kx _ _ (ne_of hp hx (by intro z; cases z)) hp))
      · rcases hp with (hp | ⟨o, hp⟩) | hp
        · exact .inr (.inl (.inl (kx _ _ (ne_of hp hx (by intro z; cases z)) hp)))
        · exact .inr (.inl (.inr ⟨o, kx _ _ (ne_of hp hx (by intro z; cases z)) hp⟩))
        · exact .inr (.inr hp)
    have h2x : ∃ fs, H2 x = some (.ins (He.ga K "Book") dx fs) ∧ fs = ([("b_held", .str b.held), ("b_each", .str b.each), ("b_lifted", .str b.lifted), ("b_ends", .str b.ends), ("b_works", .str b.works)] : List (Str × V)) := by
      rw [← hH2]
      exact ⟨_, upd_same, rfl⟩
    obtain ⟨fs, h2x, efs⟩ := h2x
    refine ⟨_, rfl, p, b.bars, rfl, hp2, Nat.lt_of_le_of_lt ok.few (by decide), fun ys l pm so hl => ?_⟩
    refine ⟨l, _, rfl, .inl ⟨SqL.of upd_same, fun t ht => ?_⟩⟩
    have nxl : x ≠ l := fun z => by
      rw [← z, h2x] at hl
      cases hl
    have nxt : x ≠ t := fun z => by
      rw [← z, upd_ne nxl, h2x] at ht
      cases ht
    have h3x : upd (upd H2 l (.lst (ys.map V.str))) t (.tup (ys.map V.str)) x = some (.ins (He.ga K "Book") dx fs) := by
      rw [upd_ne nxt, upd_ne nxl]
      exact h2x
    refine ⟨_, rfl, x, _, dx, _, rfl, h3x, C, na_Book_b_bars T, by rw [efs]; show 5 < 1000; decide, ?_⟩
    refine k t ys _ pm so (fun b o nb e => ?_) ?_ ?_
    · rw [upd_ne nb]
      have e2 := kx b o nb e
      have nbl : b ≠ l := fun z => by
        rw [z, hl] at e2
        cases e2
      have e3 : upd H2 l (.lst (ys.map V.str)) b = some o := by
        rw [upd_ne nbl]
        exact e2
      rw [upd_ne (ne_of_none e3 ht)]
      exact e3
    · rw [upd_same, efs]
      rfl
    · rw [upd_ne nxt.symm, upd_same]
end

end HL

namespace HL
open PySem PySem.Spec PyProof.Rows L2

section
/-! ### calls by keyword: each value at its place -/
def gPick {α : Type} (ix : List Nat) (us mv ws : List α) : List α := us ++ ix.filterMap fun i => (mv ++ ws)[i]?
theorem vals_at : ∀ {l : List V} {r : List Value}, Vals l r → ∀ i : Nat, (l[i]? = none ∧ r[i]? = none) ∨ ∃ v u, l[i]? = some v ∧ r[i]? = some u ∧ RelV v u
  | _, _, .nil, i => .inl ⟨by simp, by simp⟩
  | _, _, .cons h t, 0 => .inr ⟨_, _, rfl, rfl, h⟩
  | _, _, .cons h t, i + 1 => by
    have q := vals_at t i
    simpa using q
theorem vals_pick {l : List V} {r : List Value} (h : Vals l r) : ∀ ix : List Nat, Vals (ix.filterMap fun i => l[i]?) (ix.filterMap fun i => r[i]?)
  | [] => .nil
  | i :: ix => by
    have q := vals_pick h ix
    rcases vals_at h i with ⟨e1, e2⟩ | ⟨v, u, e1, e2, rv⟩
    · rw [List.filterMap_cons, List.filterMap_cons, e1, e2]
      exact q
    · rw [List.filterMap_cons, List.filterMap_cons, e1, e2]
      exact .cons rv q
theorem vals_gPick (ix : List Nat) {vs mz zs : List V} {us mv ws : List Value} (h1 : Vals vs us) (h2 : Vals mz mv) (h3 : Vals zs ws) : Vals (gPick ix vs mz zs) (gPick ix us mv ws) := h1.append (vals_pick (h2.append h3) ix)
variable {P : Program} {w : World} {K : PySem.W.Frag} {mg : Str → Option Value} {base : Heap}
theorem kb_held_each_lifted_ends_works_bars {fd : FuncData} (F : FunD K "__init__" "Book.__init__" (defArgs s_Book_init) (defBody s_Book_init) (defScope s_Book_init) (dd_Book_init.dvs K) (dd_Book_init.kws K) (mAt "Book" "__init__" K) fd) :
    ∃ g, KBn K fd ["self", "held", "each", "lifted", "ends", "works", "bars"] 1 ["held", "each", "lifted", "ends", "works", "bars"] g (fun vs zs => gPick [0, 1, 2, 3, 4, 5] vs (([] : List (Str × V)).map (·.2)) zs) := by
  obtain ⟨mv, h⟩ := F.kbinds0 (ps := ["self", "held", "each", "lifted", "ends", "works", "bars"]) 1 ["held", "each", "lifted", "ends", "works", "bars"] [] (fun {α} => gPick (α := α) [0, 1, 2, 3, 4, 5]) (by intro z; cases z) (fun q hq => by cases hq) (fun h1 h2 h3 => vals_gPick _ h1 h2 h3) (fun D doc pm an cdv ct us mv ws l1 l2 l3 => match us, mv, ws, l1, l2, l3 with
    | [_], [], [_, _, _, _, _, _], _, _, _ => rfl)
  exact ⟨_, h⟩
theorem pe_newB {X : Cx} {ks : List Str} {gV : List V → List V → List V} {kws : List Keyword} {tk : TA} {p pos : Pos} (T : Tx X.K X.mg)
    (kb : ∀ {fd : FuncData}, FunD X.K "__init__" "Book.__init__" (defArgs s_Book_init) (defBody s_Book_init) (defScope s_Book_init) (dd_Book_init.dvs X.K) (dd_Book_init.kws X.K) (mAt "Book" "__init__" X.K) fd → ∃ g, KBn X.K fd ["self", "held", "each", "lifted", "ends", "works", "bars"] 1 ks g gV)
    (hr : Room 4 X.A) (hg : Gl X "Book") (hkw : PK X kws tk) (hall : (backToKw pos (keywordEach kws X.env)).all (·.1.isSome) = true := by rfl) (hks : (backToKw pos (keywordEach kws X.env)).filterMap (·.1) = ks := by rfl)
    (hpl : ((backTo pos (starEach [] X.env)).any (·.1) || (backToKw pos (keywordEach kws X.env)).any (·.1.isNone)) = false := by rfl) :
    PE X (.Call (.Name "Book" p) [] kws pos) (tMakeK (He.ga X.K "Book") 0 ks.length (spInit X.K) gV E0 tNil tk) := by
  obtain ⟨fd, F, ok⟩ := fn_init (P := X.prog) (w := X.w) (base := X.base) T
  obtain ⟨g, hb⟩ := kb F
  exact pe_makeK0 (mk_Book T) ok hr hg (g_Book T) hb pass0 hkw hall hks (by decide) hpl
/-- a book that stands -/
def BookAt (K : PySem.W.Frag) (H : Hp) (a : Addr) (b : Bk) : Prop := ∃ dx t, H a = some (.ins (He.ga K "Book") dx (b.fs t)) ∧ SqT K H t (b.bars.map V.str)
theorem BookAt.kp {H H' : Hp} {a : Addr} {b : Bk} (h : BookAt K H a b) (e : Kp H H') : BookAt K H' a b := by
  obtain ⟨dx, t, h1, h2⟩ := h
  exact ⟨dx, t, e.ins h1, e.t h2⟩
theorem BookAt.same {H H' : Hp} {a : Addr} {b : Bk} (h : BookAt K H a b) (e : Same H H') : BookAt K H' a b := h.kp (.of e)
structure Bk.Good (b : Bk) : Prop where
  ok : b.Ok
  so : sortedS b.bars = true
theorem Bk.Ok.perm {b : Bk} (h : b.Ok) {ys : List Str} (p : ys.Perm b.bars) : ({ b with bars := ys } : Bk).Ok := ⟨h.h, h.e, h.l, h.n, h.k, fun z hz => h.r z (p.mem_iff.mp hz), p.nodup_iff.mpr h.d⟩
theorem init_ok {H2 : Hp} {vs : List V} {Q' : VK} (b : Bk) (p : Addr) {x dx : Addr} (hx : H2 x = none) (hdx : H2 dx = none) (nx : dx ≠ x) (hv : vs = [.ref x, .str b.held, .str b.each, .str b.lifted, .str b.ends, .str b.works, .ref p]) (ok : b.Ok)
    (hp : H2 p = some (.lst (b.bars.map V.str)) ∨ SqT K H2 p (b.bars.map V.str)) (k : ∀ (ys : List Str) (H' : Hp), Same H2 H' → ys.Perm b.bars → ({ b with bars := ys } : Bk).Good → BookAt K H' x { b with bars := ys } → Q' .non H') :
    spInit K vs (upd (upd H2 dx (.own x)) x (.ins (He.ga K "Book") dx [])) Q' E0 := by
  have sm : Same H2 (upd (upd H2 dx (.own x)) x (.ins (He.ga K "Book") dx [])) := same_upd (same_new hdx) hx
  refine ⟨x, dx, p, b, hv, upd_same, ok, ?_, fun t ys H' pm so sd hx' ht => k ys H' (fun b o e => ?_) pm ⟨ok.perm pm, so⟩ ⟨dx, t, hx', .inl (.inl ht)⟩⟩
  · rcases hp with hp | hp
    · exact .inl (sm _ _ hp)
    · exact .inr (same_t sm hp)
  · exact sd b o (ne_of_none e hx) (sm _ _ e)
theorem mk_ok {H2 : Hp} {zs : List V} {gV : List V → List V → List V} {m : Nat} {Q : VK} (b : Bk) (p : Addr) (hzs : zs.length = m) (hg : ∀ x, gV [.ref x] zs = [.ref x, .str b.held, .str b.each, .str b.lifted, .str b.ends, .str b.works, .ref p]) (ok : b.Ok)
    (hp : H2 p = some (.lst (b.bars.map V.str)) ∨ SqT K H2 p (b.bars.map V.str)) (k : ∀ (a : Addr) (ys : List Str) (H' : Hp), Same H2 H' → H2 a = none → ys.Perm b.bars → ({ b with bars := ys } : Bk).Good → BookAt K H' a { b with bars := ys } → Q (.ref a) H') :
    (([] : List V).length = 0 ∧ zs.length = m ∧ ∀ x dx, H2 x = none → H2 dx = none → dx ≠ x → spInit K (gV (.ref x :: []) zs) (upd (upd H2 dx (.own x)) x (.ins (He.ga K "Book") dx [])) (fun v H3 => v = .non ∧ Q (.ref x) H3) E0) := by
  refine ⟨rfl, hzs, fun x dx hx hdx nx => ?_⟩
  have sm : Same H2 (upd (upd H2 dx (.own x)) x (.ins (He.ga K "Book") dx [])) := same_upd (same_new hdx) hx
  refine ⟨x, dx, p, b, hg x, upd_same, ok, ?_, fun t ys H' pm so sd hx' ht => ⟨rfl, k x ys H' (fun b o e => ?_) hx pm ⟨ok.perm pm, so⟩ ⟨dx, t, hx', .inl (.inl ht)⟩⟩⟩
  · rcases hp with hp | hp
    · exact .inl (sm _ _ hp)
    · exact .inr (same_t sm hp)
  · exact sd b o (ne_of_none e hx) (sm _ _ e)
end

section
variable {P : Program} {w : World} {K : PySem.W.Frag} {mg : Str → Option Value} {base : Heap}
/-! ### what a book tells -/
theorem a_held (T : Tx K mg) : At P w K mg base (pAt "Book" "held" K) 1 ["self"] (getSp (He.ga K "Book") "b_held") := at_getter (d_Book_held T) sc_Book_held rfl rfl (cls_Book T) (na_Book_b_held T) (fun _ _ _ _ _ _ us hl => match us, hl with | [_], _ => rfl)
theorem a_each (T : Tx K mg) : At P w K mg base (pAt "Book" "each" K) 1 ["self"] (getSp (He.ga K "Book") "b_each") := at_getter (d_Book_each T) sc_Book_each rfl rfl (cls_Book T) (na_Book_b_each T) (fun _ _ _ _ _ _ us hl => match us, hl with | [_], _ => rfl)
theorem a_lifted (T : Tx K mg) : At P w K mg base (pAt "Book" "lifted" K) 1 ["self"] (getSp (He.ga K "Book") "b_lifted") := at_getter (d_Book_lifted T) sc_Book_lifted rfl rfl (cls_Book T) (na_Book_b_lifted T) (fun _ _ _ _ _ _ us hl => match us, hl with | [_], _ => rfl)
theorem a_ends (T : Tx K mg) : At P w K mg base (pAt "Book" "ends" K) 1 ["self"] (getSp (He.ga K "Book") "b_ends") := at_getter (d_Book_ends T) sc_Book_ends rfl rfl (cls_Book T) (na_Book_b_ends T) (fun _ _ _ _ _ _ us hl => match us, hl with | [_], _ => rfl)
theorem a_works (T : Tx K mg) : At P w K mg base (pAt "Book" "works" K) 1 ["self"] (getSp (He.ga K "Book") "b_works") := at_getter (d_Book_works T) sc_Book_works rfl rfl (cls_Book T) (na_Book_b_works T) (fun _ _ _ _ _ _ us hl => match us, hl with | [_], _ => rfl)
theorem a_bars (T : Tx K mg) : At P w K mg base (pAt "Book" "bars" K) 1 ["self"] (getSp (He.ga K "Book") "b_bars") := at_getter (d_Book_bars T) sc_Book_bars rfl rfl (cls_Book T) (na_Book_b_bars T) (fun _ _ _ _ _ _ us hl => match us, hl with | [_], _ => rfl)
def Bk.five (b : Bk) : List Str := [b.held, b.each, b.lifted, b.ends, b.works]
theorem okS : ∀ z ∈ held2 ++ each2 ++ lift2 ++ ends3 ++ work3 ++ bars6, PyData.strOk z = true := by decide +kernel
theorem Bk.Ok.fiveOk {b : Bk} (h : b.Ok) : ∀ z ∈ b.five, PyData.strOk z = true := by
  have h1 := h.h
  have h2 := h.e
  have h3 := h.l
  have h4 := h.n
  have h5 := h.k
  intro z hz
  simp only [Bk.five, List.mem_cons, List.not_mem_nil, or_false] at hz
  refine okS z ?_
  simp only [List.mem_append]
  rcases hz with rfl | rfl | rfl | rfl | rfl
  · exact .inl (.inl (.inl (.inl (.inl h1))))
  · exact .inl (.inl (.inl (.inl (.inr h2))))
  · exact .inl (.inl (.inl (.inr h3)))
  · exact .inl (.inl (.inr h4))
  · exact .inl (.inr h5)
theorem Bk.Ok.barsOk {b : Bk} (h : b.Ok) : ∀ z ∈ b.bars, PyData.strOk z = true := fun z hz => okS z (by simp only [List.mem_append]; exact .inr (h.r z hz))
end

end HL

namespace HL
open PySem PySem.Spec PyProof.Rows L2


section
variable {P : Program} {w : World} {K : PySem.W.Frag} {mg : Str → Option Value} {base : Heap}
def spAll : Sp := fun vs H Q _ => vs = [] ∧ ∀ l, H l = none → Q (.ref l) (upd H l (.lst (bars6.map V.str)))
theorem has_all (T : Tx K mg) : Has P w K mg base "_law_all_bars" 1 [] spAll := by
  refine has_of (k := 0) (g_law_all_bars T) (d_law_all_bars T) sc_law_all_bars (fun _ _ _ _ _ _ us hl => match us, hl with | [], _ => rfl) (fun vs H Q E h => ?_) (fun cdv A outer s H vs Q E hr h => ?_)
  · obtain ⟨rfl, _⟩ := h
    rfl
  · obtain ⟨rfl, k⟩ := h
    exact ⟨_, (pss_one (ps_ret (pe_lst (pa_cons pe_str (pa_cons pe_str (pa_cons pe_str (pa_cons pe_str (pa_cons pe_str (pa_cons pe_str pa_nil))))))))), by show 6 ≤ sizeLine; decide, k⟩
/-! ### fields in a dict -/
def fkv (b : Bk) (p : Addr) : List (Key × V) := [(.inr "held", .str b.held), (.inr "each", .str b.each), (.inr "lifted", .str b.lifted), (.inr "ends", .str b.ends), (.inr "works", .str b.works), (.inr "bars", .ref p)]
def FAt (H : Hp) (d p : Addr) (b : Bk) : Prop := H d = some (.dK (fkv b p)) ∧ H p = some (.lst (b.bars.map V.str))
theorem FAt.kp {H H' : Hp} {d p : Addr} {b : Bk} (h : FAt H d p b) (e : Kp H H') : FAt H' d p b := ⟨e.dK h.1, e.lst h.2⟩
theorem FAt.held {H : Hp} {d p : Addr} {b : Bk} (h : FAt H d p b) : DGet H d (.str "held") (some (.str b.held)) := DGet.k (k := .inr "held") h.1
theorem FAt.each {H : Hp} {d p : Addr} {b : Bk} (h : FAt H d p b) : DGet H d (.str "each") (some (.str b.each)) := DGet.k (k := .inr "each") h.1
theorem FAt.lifted {H : Hp} {d p : Addr} {b : Bk} (h : FAt H d p b) : DGet H d (.str "lifted") (some (.str b.lifted)) := DGet.k (k := .inr "lifted") h.1
theorem FAt.ends {H : Hp} {d p : Addr} {b : Bk} (h : FAt H d p b) : DGet H d (.str "ends") (some (.str b.ends)) := DGet.k (k := .inr "ends") h.1
theorem FAt.works {H : Hp} {d p : Addr} {b : Bk} (h : FAt H d p b) : DGet H d (.str "works") (some (.str b.works)) := DGet.k (k := .inr "works") h.1
theorem FAt.bars {H : Hp} {d p : Addr} {b : Bk} (h : FAt H d p b) : DGet H d (.str "bars") (some (.ref p)) := DGet.k (k := .inr "bars") h.1
/-- a book of the fields -/
def spBook (K : PySem.W.Frag) : Sp := fun vs H Q _ => ∃ (d p : Addr) (b : Bk), vs = [.ref d] ∧ FAt H d p b ∧ b.Ok ∧ ∀ (a : Addr) (ys : List Str) (H' : Hp), Same H H' → H a = none → ys.Perm b.bars → ({ b with bars := ys } : Bk).Good → BookAt K H' a { b with bars := ys } → Q (.ref a) H'
theorem has_book (T : Tx K mg) : Has P w K mg base "_law_book" 5 ["_law_fields"] (spBook K) := by
  refine has_of (k := 4) (g_law_book T) (d_law_book T) sc_law_book (fun _ _ _ _ _ _ us hl => match us, hl with | [_], _ => rfl) (fun vs H Q E h => ?_) (fun cdv A outer s H vs Q E hr h => ?_)
  · obtain ⟨d, p, b, rfl, _⟩ := h
    rfl
  · obtain ⟨d, p, b, rfl, hf, ok, k⟩ := h
    have hu := hu_of hr
    refine ⟨_, (pss_cons (ps_set (i := 1) sc_law_book.nd rfl (Or.inl rfl) (pe_lst (pa_cons (pe_dget hu (pv 0) pe_str (fun _ _ => rfl)) pa_nil))) (pss_one (ps_ret (pe_newB T kb_held_each_lifted_ends_works_bars (hr.mono (by decide)) rfl (pk_cons (pe_dget hu (pv 0) pe_str (fun _ _ => rfl)) (pk_cons (pe_dget hu (pv 0) pe_str (fun _ _ => rfl)) (pk_cons (pe_dget hu (pv 0) pe_str (fun _ _ => rfl)) (pk_cons (pe_dget hu (pv 0) pe_str (fun _ _ => rfl)) (pk_cons (pe_dget hu (pv 0) pe_str (fun _ _ => rfl)) (pk_cons (pe_ix ix_list (pv 1) pe_int (fun _ _ => rfl)) pk_nil)))))))))), ?_⟩
    refine ⟨_, rfl, d, _, rfl, hf.bars, by show 1 ≤ sizeLine; decide, fun p1 q1 => ?_⟩
    generalize e1 : upd _ _ _ = H1; have s1 := new_s e1 q1; have f1 := new_f e1
    have hf1 := hf.kp (Kp.of s1)
    refine ⟨_, rfl, d, _, rfl, hf1.held, _, rfl, d, _, rfl, hf1.each, _, rfl, d, _, rfl, hf1.lifted, _, rfl, d, _, rfl, hf1.ends, _, rfl, d, _, rfl, hf1.works, _, rfl, p1, _, 0, _, rfl, rfl, SqL.of f1, rfl, ?_⟩
    exact mk_ok b p rfl (fun x => rfl) ok (.inl hf1.2) fun c ys H' sm hc pm gd hb' => k c ys H' (s1.trans sm) (same_none s1 hc) pm gd hb'
end

end HL

namespace HL
open PySem PySem.Spec PyProof.Rows L2


section
variable {P : Program} {w : World} {K : PySem.W.Frag} {mg : Str → Option Value} {base : Heap}
/-! ### numbers, books, depths, faults -/
theorem kit_ib : PySem.W.kitOne K (.type "int") (.type "bool") = some false := by
  unfold PySem.W.kitOne
  rfl
def spNum (K : PySem.W.Frag) : Sp := fun vs H Q _ => ∃ n : Int, vs = [.int n] ∧ Q (.bl true) H
theorem has_num (T : Tx K mg) : Has P w K mg base "is_number" 1 ["thing"] (spNum K) := by
  refine has_of (k := 0) (g_is_number T) (d_is_number T) sc_is_number (fun _ _ _ _ _ _ us hl => match us, hl with | [_], _ => rfl) (fun vs H Q E h => ?_) (fun cdv A outer s H vs Q E hr h => ?_)
  · obtain ⟨n, rfl, _⟩ := h
    rfl
  · obtain ⟨n, rfl, q⟩ := h
    refine ⟨_, (pss_one (ps_ret (pe_and (pe_callB call_isi (by rfl) (m_isinstance T) boot_isinstance (pa_cons (pv 0) (pa_cons (pe_bltn (v := .ty "int") (by rfl) (m_int T) boot_int rfl) pa_nil))) (pe_one (pe_not (pe_callB call_isi (by rfl) (m_isinstance T) boot_isinstance (pa_cons (pv 0) (pa_cons (pe_bltn (v := .ty "bool") (by rfl) (m_bool T) boot_bool rfl) pa_nil)))))))), ?_⟩
    refine ⟨_, rfl, _, _, _, _, true, rfl, .ty "int", .base (.int n), rfl, true, rfl, iteT ?_⟩
    exact ⟨_, rfl, _, _, _, _, false, rfl, .ty "bool", .base (.int n), kit_ib, false, rfl, q⟩
theorem has_lnum (T : Tx K mg) : Has P w K mg base "_law_is_number" 1 ["_law_thing"] (spNum K) := by
  refine has_of (k := 0) (g_law_is_number T) (d_law_is_number T) sc_law_is_number (fun _ _ _ _ _ _ us hl => match us, hl with | [_], _ => rfl) (fun vs H Q E h => ?_) (fun cdv A outer s H vs Q E hr h => ?_)
  · obtain ⟨n, rfl, _⟩ := h
    rfl
  · obtain ⟨n, rfl, q⟩ := h
    refine ⟨_, (pss_one (ps_ret (pe_and (pe_callB call_isi (by rfl) (m_isinstance T) boot_isinstance (pa_cons (pv 0) (pa_cons (pe_bltn (v := .ty "int") (by rfl) (m_int T) boot_int rfl) pa_nil))) (pe_one (pe_not (pe_callB call_isi (by rfl) (m_isinstance T) boot_isinstance (pa_cons (pv 0) (pa_cons (pe_bltn (v := .ty "bool") (by rfl) (m_bool T) boot_bool rfl) pa_nil)))))))), ?_⟩
    refine ⟨_, rfl, _, _, _, _, true, rfl, .ty "int", .base (.int n), rfl, true, rfl, iteT ?_⟩
    exact ⟨_, rfl, _, _, _, _, false, rfl, .ty "bool", .base (.int n), kit_ib, false, rfl, q⟩
def spNeedBook (K : PySem.W.Frag) : Sp := fun vs H Q _ => ∃ (a : Addr) (b : Bk), vs = [.ref a] ∧ BookAt K H a b ∧ Q .non H
theorem has_needBook (T : Tx K mg) : Has P w K mg base "need_book" 1 ["book"] (spNeedBook K) := by
  refine has_of (k := 0) (g_need_book T) (d_need_book T) sc_need_book (fun _ _ _ _ _ _ us hl => match us, hl with | [_], _ => rfl) (fun vs H Q E h => ?_) (fun cdv A outer s H vs Q E hr h => ?_)
  · obtain ⟨a, b, rfl, _⟩ := h
    rfl
  · obtain ⟨a, b, rfl, ⟨dx, t, h1, _⟩, q⟩ := h
    refine ⟨_, (pss_one (ps_if (pt_not (pt_val (pe_callB call_isi (by rfl) (m_isinstance T) boot_isinstance (pa_cons (pv 0) (pa_cons (pe_glob (v := .ref (He.ga K "Book")) rfl (g_Book T) rfl) pa_nil))))) (pss_one ps_never) pss_nil)), ?_⟩
    exact ⟨_, rfl, _, _, _, _, true, rfl, .own _, ins_ty (in_Book T) (cls_Book T) h1, kit_self, true, rfl, iteF q⟩
def spNeedDepth : Sp := fun vs H Q _ => ∃ n : Int, vs = [.int n] ∧ 1 ≤ n ∧ n ≤ 3 ∧ Q .non H
theorem has_needDepth (T : Tx K mg) : Has P w K mg base "need_depth" 2 ["depth"] spNeedDepth := by
  have h_is_number : Has P w K mg base "is_number" 1 ["thing"] (spNum K) := has_num T
  refine has_of (k := 1) (g_need_depth T) (d_need_depth T) sc_need_depth (fun _ _ _ _ _ _ us hl => match us, hl with | [_], _ => rfl) (fun vs H Q E h => ?_) (fun cdv A outer s H vs Q E hr h => ?_)
  · obtain ⟨n, rfl, _⟩ := h
    rfl
  · obtain ⟨n, rfl, h1, h2, q⟩ := h
    refine ⟨_, (pss_one (ps_if (PW.pt (pw_or (pt_not (pt_val (pe_has h_is_number (hr.mono (by decide)) rfl (pa_cons (pv 0) pa_nil)))) (pw_or1 (pt_not (pt_chain op_le op_le pe_int (pv 0) (pe_gk rfl (k_MOST_DEPTH T))))))) (pss_one ps_never) pss_nil)), ?_⟩
    refine ⟨_, rfl, n, rfl, true, rfl, iteF ?_⟩
    refine ⟨_, rfl, _, _, rfl, rfl, _, rfl, ?_⟩
    rw [decide_eq_true h1]
    refine iteT ⟨_, _, rfl, rfl, _, rfl, ?_⟩
    rw [decide_eq_true h2]
    exact iteF q
def four : List Str := ["ended", "left", "missing", "strayed"]
def spNeedFault : Sp := fun vs H Q _ => ∃ z : Str, vs = [.str z] ∧ z ∈ four ∧ Q .non H
theorem has_needFault (T : Tx K mg) : Has P w K mg base "need_fault" 1 ["fault"] spNeedFault := by
  refine has_of (k := 0) (g_need_fault T) (d_need_fault T) sc_need_fault (fun _ _ _ _ _ _ us hl => match us, hl with | [_], _ => rfl) (fun vs H Q E h => ?_) (fun cdv A outer s H vs Q E hr h => ?_)
  · obtain ⟨z, rfl, _⟩ := h
    rfl
  · obtain ⟨z, rfl, hz, q⟩ := h
    refine ⟨_, (pss_one (ps_if (PW.pt (pw_or (pt_not (pt_val (pe_callB call_isi (by rfl) (m_isinstance T) boot_isinstance (pa_cons (pv 0) (pa_cons (pe_bltn (v := .ty "str") (by rfl) (m_str T) boot_str rfl) pa_nil))))) (pw_or1 (pt_cmpR op_notIn_seq (pv 0) (pe_glob (v := .ref (He.ga K "FAULTS")) rfl (g_FAULTS T) rfl) rfl)))) (pss_one ps_never) pss_nil)), ?_⟩
    refine ⟨_, rfl, _, _, _, _, true, rfl, .ty "str", .base (.str z), rfl, true, rfl, iteF ?_⟩
    refine ⟨_, rfl, _, _, rfl, .inr (c_FAULTS T H), rfl, flat_strs four, _, rfl, ?_⟩
    show if (!inV (.str z) (four.map V.str)) = true then _ else _
    rw [inV_strs, decide_eq_true hz]
    exact iteF q
/-! ### bars -/
def barOf (life : Int) (way : Str) (x : Int) : Option Str := if life = -1 then (if 0 < x then some ("use-" ++ way) else none) else if x = -1 then some (way ++ "-use") else if life < x then some (way ++ "-shorter") else none
def optV : Option Str → V
  | none => .non
  | some z => .str z
def ways2 : List Str := ["each", "held"]
theorem ways_len {y : Str} (h : y ∈ ways2) : y.length = 4 := by
  simp only [ways2, List.mem_cons, List.not_mem_nil, or_false] at h
  rcases h with rfl | rfl
  all_goals rfl
def spBarOf : Sp := fun vs H Q _ => ∃ (l : Int) (y : Str) (x : Int), vs = [.int l, .str y, .int x] ∧ y ∈ ways2 ∧ Q (optV (barOf l y x)) H
theorem has_barOf (T : Tx K mg) : Has P w K mg base "bar_of" 1 ["life", "way", "wanted_life"] spBarOf := by
  refine has_of (k := 0) (g_bar_of T) (d_bar_of T) sc_bar_of (fun _ _ _ _ _ _ us hl => match us, hl with | [_, _, _], _ => rfl) (fun vs H Q E h => ?_) (fun cdv A outer s H vs Q E hr h => ?_)
  · obtain ⟨l, y, x, rfl, _⟩ := h
    rfl
  · obtain ⟨l, y, x, rfl, hy, q⟩ := h
    have ly := ways_len hy
    refine ⟨_, (pss_cons (ps_if (pt_cmpR op_eq (pv 0) (pe_gk rfl (k_USE T)) (nomark _)) (pss_one (ps_ret (pe_ifExp (pt_cmpR op_gt (pv 2) pe_int (nomark _)) (pe_op op_add_str pe_str (pv 1)) pe_non))) pss_nil) (pss_cons (ps_if (pt_cmpR op_eq (pv 2) (pe_gk rfl (k_USE T)) (nomark _)) (pss_one (ps_ret (pe_op op_add_str (pv 1) pe_str))) pss_nil) (pss_one (ps_ret (pe_ifExp (pt_cmpR op_gt (pv 2) (pv 0) (nomark _)) (pe_op op_add_str (pv 1) pe_str) pe_non))))), ?_⟩
    unfold barOf at q
    refine ⟨_, rfl, rfl, _, rfl, ?_⟩
    by_cases h1 : l = -1
    · rw [decide_eq_true (show V.int l = V.int (-1) from congrArg V.int h1)]
      rw [if_pos h1] at q
      refine iteT ⟨_, rfl, _, _, rfl, rfl, _, rfl, ?_⟩
      by_cases h2 : 0 < x
      · rw [decide_eq_true h2]
        rw [if_pos h2] at q
        exact iteT ⟨_, rfl, _, _, rfl, rfl, by rw [ly]; decide, q⟩
      · rw [decide_eq_false h2]
        rw [if_neg h2] at q
        exact iteF q
    · rw [decide_eq_false (fun z => h1 (V.int.inj z))]
      rw [if_neg h1] at q
      refine iteF ⟨_, rfl, rfl, _, rfl, ?_⟩
      by_cases h2 : x = -1
      · rw [decide_eq_true (show V.int x = V.int (-1) from congrArg V.int h2)]
        rw [if_pos h2] at q
        exact iteT ⟨_, rfl, _, _, rfl, rfl, by rw [ly]; decide, q⟩
      · rw [decide_eq_false (fun z => h2 (V.int.inj z))]
        rw [if_neg h2] at q
        refine iteF ⟨_, rfl, _, rfl, _, _, rfl, rfl, _, rfl, ?_⟩
        by_cases h3 : l < x
        · rw [decide_eq_true h3]
          rw [if_pos h3] at q
          exact iteT ⟨_, rfl, _, _, rfl, rfl, by rw [ly]; decide, q⟩
        · rw [decide_eq_false h3]
          rw [if_neg h3] at q
          exact iteF q
end

end HL

namespace HL
open PySem PySem.Spec PyProof.Rows L2


section
variable {P : Program} {w : World} {K : PySem.W.Frag} {mg : Str → Option Value} {base : Heap}
/-! ### stands -/
structure Sd where
  life : Int
  level : Int
  made : Str
  common : Int
  past : Bool
  rooted : Bool
def Sd.vs (s : Sd) : List V := [.int s.life, .int s.level, .str s.made, .int s.common, .bl s.past, .bl s.rooted]
structure Sd.Form (s : Sd) (k : Int) : Prop where
  l0 : -1 ≤ s.life
  l1 : s.life ≤ k
  v0 : 0 ≤ s.level
  v1 : s.level ≤ (if s.life = -1 then k else s.life)
  c0 : 0 ≤ s.common
  c1 : s.common < k
  m : s.made ∈ ([Str.ofString "own", Str.ofString "other"] : List Str)
  o : s.made = "other" ∨ (s.common = 0 ∧ s.past = false)
theorem kit_tup : PySem.W.kitOne K (.type "tuple") (.type "tuple") = some true := rfl
def spForm : Sp := fun vs H Q _ => ∃ (k : Int) (t : Addr) (s : Sd), vs = [.int k, .ref t] ∧ H t = some (.tup s.vs) ∧ s.Form k ∧ ∀ H', Same H H' → Q (.bl true) H'
theorem has_form (T : Tx K mg) : Has P w K mg base "is_form" 2 ["depth", "thing"] spForm := by
  have h_is_number : Has P w K mg base "is_number" 1 ["thing"] (spNum K) := has_num T
  refine has_of (k := 1) (g_is_form T) (d_is_form T) sc_is_form (fun _ _ _ _ _ _ us hl => match us, hl with | [_, _], _ => rfl) (fun vs H Q E h => ?_) (fun cdv A outer s H vs Q E hr h => ?_)
  · obtain ⟨k, t, s, rfl, _⟩ := h
    rfl
  · obtain ⟨k, t, s, rfl, ht, fm, q⟩ := h
    refine ⟨_, (pss_cons (ps_if (PW.pt (pw_or (pt_not (pt_val (pe_callB call_isi (by rfl) (m_isinstance T) boot_isinstance (pa_cons (pv 1) (pa_cons (pe_bltn (v := .ty "tuple") (by rfl) (m_tuple T) boot_tuple rfl) pa_nil))))) (pw_or1 (pt_cmpR op_ne (pe_callB call_len_seq (by rfl) (m_len T) boot_len (pa_cons (pv 1) pa_nil)) pe_int (nomark _))))) (pss_one (ps_ret pe_bl)) pss_nil) (pss_cons (ps_asg (pv 1) (pg_tup (by rfl) (pgs_cons (pg_name (i := 2) sc_is_form.nd rfl (Or.inl rfl)) (pgs_cons (pg_name (i := 3) sc_is_form.nd rfl (Or.inl rfl)) (pgs_cons (pg_name (i := 4) sc_is_form.nd rfl (Or.inl rfl)) (pgs_cons (pg_name (i := 5) sc_is_form.nd rfl (Or.inl rfl)) (pgs_cons (pg_name (i := 6) sc_is_form.nd rfl (Or.inl rfl)) (pgs_cons (pg_name (i := 7) sc_is_form.nd rfl (Or.inl rfl)) pgs_nil)))))))) (pss_cons (ps_if (PW.pt (pw_or (pt_not (pt_val (pe_has h_is_number (hr.mono (by decide)) rfl (pa_cons (pv 2) pa_nil)))) (pw_or (pt_not (pt_val (pe_has h_is_number (hr.mono (by decide)) rfl (pa_cons (pv 3) pa_nil)))) (pw_or1 (pt_not (pt_val (pe_has h_is_number (hr.mono (by decide)) rfl (pa_cons (pv 5) pa_nil)))))))) (pss_one (ps_ret pe_bl)) pss_nil) (pss_cons (ps_if (PW.pt (pw_or (pt_not (pt_val (pe_callB call_isi (by rfl) (m_isinstance T) boot_isinstance (pa_cons (pv 4) (pa_cons (pe_bltn (v := .ty "str") (by rfl) (m_str T) boot_str rfl) pa_nil))))) (pw_or1 (pt_cmpR op_notIn_seq (pv 4) (pe_tup (pa_cons (pe_gk rfl (k_OWN T)) (pa_cons (pe_gk rfl (k_OTHER T)) pa_nil))) rfl)))) (pss_one (ps_ret pe_bl)) pss_nil) (pss_cons (ps_if (PW.pt (pw_or (pt_not (pt_val (pe_callB call_isi (by rfl) (m_isinstance T) boot_isinstance (pa_cons (pv 6) (pa_cons (pe_bltn (v := .ty "bool") (by rfl) (m_bool T) boot_bool rfl) pa_nil))))) (pw_or1 (pt_not (pt_val (pe_callB call_isi (by rfl) (m_isinstance T) boot_isinstance (pa_cons (pv 7) (pa_cons (pe_bltn (v := .ty "bool") (by rfl) (m_bool T) boot_bool rfl) pa_nil)))))))) (pss_one (ps_ret pe_bl)) pss_nil) (pss_cons (ps_if (PW.pt (pw_or (pt_not (pt_chain op_le op_le (pe_gk rfl (k_USE T)) (pv 2) (pv 0))) (pw_or (pt_not (pt_chain op_le op_le pe_int (pv 3) (pe_ifExp (pt_cmpR op_eq (pv 2) (pe_gk rfl (k_USE T)) (nomark _)) (pv 0) (pv 2)))) (pw_or1 (pt_not (pt_chain op_le op_lt pe_int (pv 5) (pv 0))))))) (pss_one (ps_ret pe_bl)) pss_nil) (pss_one (ps_ret (pe_or (pe_cmpR op_eq (pv 4) (pe_gk rfl (k_OTHER T)) (nomark _)) (pe_one (pe_and (pe_cmpR op_eq (pv 5) pe_int (nomark _)) (pe_one (pe_not (pv 6)))))))))))))), ?_⟩
    refine ⟨_, rfl, _, _, _, _, true, rfl, .ty "tuple", .base (.tup ht), rfl, true, rfl, iteF ?_⟩
    refine ⟨_, rfl, t, _, rfl, .inr (.inl (.inl ht)), rfl, _, rfl, iteF ?_⟩
    refine ⟨_, rfl, t, _, rfl, .inl (.inl ht), rfl, _, _, rfl, _, _, rfl, _, _, rfl, _, _, rfl, _, _, rfl, _, _, rfl, rfl, ?_⟩
    refine ⟨_, rfl, _, rfl, true, rfl, iteF ⟨_, rfl, _, rfl, true, rfl, iteF ⟨_, rfl, _, rfl, true, rfl, iteF ?_⟩⟩⟩
    refine ⟨_, rfl, _, _, _, _, true, rfl, .ty "str", .base (.str _), rfl, true, rfl, iteF ?_⟩
    refine ⟨_, rfl, by decide, fun p1 q1 => ?_⟩
    generalize e1 : upd _ _ _ = H1; have s1 := new_s e1 q1; have f1 := new_f e1
    refine ⟨p1, _, rfl, .inr (.inl (.inl f1)), rfl, flat_strs [Str.ofString "own", Str.ofString "other"], _, rfl, ?_⟩
    show if (!inV (.str s.made) (([Str.ofString "own", Str.ofString "other"] : List Str).map V.str)) = true then _ else _
    rw [inV_strs, decide_eq_true fm.m]
    refine iteF ?_
    refine ⟨_, rfl, _, _, _, _, true, rfl, .ty "bool", .base (.bl _), rfl, true, rfl, iteF ⟨_, rfl, _, _, _, _, true, rfl, .ty "bool", .base (.bl _), rfl, true, rfl, iteF ?_⟩⟩
    refine ⟨_, rfl, _, _, rfl, rfl, _, rfl, ?_⟩
    rw [decide_eq_true fm.l0]
    refine iteT ⟨_, rfl, _, _, rfl, rfl, _, rfl, ?_⟩
    rw [decide_eq_true fm.l1]
    refine iteF ⟨_, rfl, _, _, rfl, rfl, _, rfl, ?_⟩
    rw [decide_eq_true fm.v0]
    refine iteT ⟨_, rfl, rfl, _, rfl, ?_⟩
    have tail : ∀ b : Bool, b = (decide (V.str s.made = V.str (Str.ofString "other"))) → (b = true → Q (.bl true) H1) ∧ (b = false → s.common = 0 ∧ s.past = false) := fun b e => by
      refine ⟨fun _ => q _ s1, fun z => ?_⟩
      rcases fm.o with h | h
      · rw [e, decide_eq_true (congrArg V.str h)] at z
        cases z
      · exact h
    have v1 := fm.v1
    by_cases hl : s.life = -1
    · rw [decide_eq_true (show V.int s.life = V.int (-1) from congrArg V.int hl)]
      rw [if_pos hl] at v1
      refine iteT ⟨_, rfl, _, _, rfl, rfl, _, rfl, ?_⟩
      rw [decide_eq_true v1]
      refine iteF ⟨_, rfl, _, _, rfl, rfl, _, rfl, ?_⟩
      rw [decide_eq_true fm.c0]
      refine iteT ⟨_, rfl, _, _, rfl, rfl, _, rfl, ?_⟩
      rw [decide_eq_true fm.c1]
      refine iteF ⟨_, rfl, rfl, _, rfl, ?_⟩
      obtain ⟨t1, t2⟩ := tail _ rfl
      cases e : decide (V.str s.made = V.str (Str.ofString "other")) with
      | true => exact iteT (t1 e)
      | false =>
        obtain ⟨c0, p0⟩ := t2 e
        refine iteF ⟨_, rfl, rfl, _, rfl, ?_⟩
        rw [decide_eq_true (show V.int s.common = V.int 0 from congrArg V.int c0)]
        exact iteT ⟨_, rfl, s.past, rfl, by rw [p0]; exact q _ s1⟩
    · rw [decide_eq_false (fun z => hl (V.int.inj z))]
      rw [if_neg hl] at v1
      refine iteF ⟨_, rfl, _, _, rfl, rfl, _, rfl, ?_⟩
      rw [decide_eq_true v1]
      refine iteF ⟨_, rfl, _, _, rfl, rfl, _, rfl, ?_⟩
      rw [decide_eq_true fm.c0]
      refine iteT ⟨_, rfl, _, _, rfl, rfl, _, rfl, ?_⟩
      rw [decide_eq_true fm.c1]
      refine iteF ⟨_, rfl, rfl, _, rfl, ?_⟩
      obtain ⟨t1, t2⟩ := tail _ rfl
      cases e : decide (V.str s.made = V.str (Str.ofString "other")) with
      | true => exact iteT (t1 e)
      | false =>
        obtain ⟨c0, p0⟩ := t2 e
        refine iteF ⟨_, rfl, rfl, _, rfl, ?_⟩
        rw [decide_eq_true (show V.int s.common = V.int 0 from congrArg V.int c0)]
        exact iteT ⟨_, rfl, s.past, rfl, by rw [p0]; exact q _ s1⟩
def spNeedStand : Sp := fun vs H Q _ => ∃ (k : Int) (t : Addr) (s : Sd), vs = [.int k, .ref t] ∧ H t = some (.tup s.vs) ∧ s.Form k ∧ ∀ H', Same H H' → Q .non H'
theorem has_needStand (T : Tx K mg) : Has P w K mg base "need_stand" 3 ["depth", "stand"] spNeedStand := by
  have h_is_form : Has P w K mg base "is_form" 2 ["depth", "thing"] spForm := has_form T
  refine has_of (k := 2) (g_need_stand T) (d_need_stand T) sc_need_stand (fun _ _ _ _ _ _ us hl => match us, hl with | [_, _], _ => rfl) (fun vs H Q E h => ?_) (fun cdv A outer s H vs Q E hr h => ?_)
  · obtain ⟨k, t, s, rfl, _⟩ := h
    rfl
  · obtain ⟨k, t, s, rfl, ht, fm, q⟩ := h
    refine ⟨_, (pss_one (ps_if (pt_not (pt_val (pe_has h_is_form (hr.mono (by decide)) rfl (pa_cons (pv 0) (pa_cons (pv 1) pa_nil))))) (pss_one ps_never) pss_nil)), ?_⟩
    exact ⟨_, rfl, _, rfl, k, t, s, rfl, ht, fm, fun H' sm => ⟨true, rfl, iteF (q H' sm)⟩⟩
end

end HL

namespace HL
open PySem PySem.Spec PyProof.Rows L2


section
variable {P : Program} {w : World} {K : PySem.W.Frag} {mg : Str → Option Value} {base : Heap}
/-! ### wants -/
/-- a row of pairs -/
def PrsAt (H : Hp) (l : Addr) (prs : List (Str × Int)) : Prop := ∃ ts : List Addr, H l = some (.lst (ts.map V.ref)) ∧ Paired (fun t pr => H t = some (.tup [.str pr.1, .int pr.2])) ts prs
theorem PrsAt.kp {H H' : Hp} {l : Addr} {prs : List (Str × Int)} (h : PrsAt H l prs) (e : Kp H H') : PrsAt H' l prs := by
  obtain ⟨ts, h1, h2⟩ := h
  exact ⟨ts, e.lst h1, h2.mono fun t pr q => e.tup q⟩
theorem PrsAt.push {H H1 : Hp} {D t : Addr} {prs : List (Str × Int)} {pr : Str × Int} (h : PrsAt H D prs) (s : Same H H1) (e : H1 t = some (.tup [.str pr.1, .int pr.2])) :
    ∃ acc, H1 D = some (.lst acc) ∧ acc.length = prs.length ∧ PrsAt (upd H1 D (.lst (acc ++ [.ref t]))) D (prs ++ [pr]) := by
  obtain ⟨ts, h1, h2⟩ := h
  have hD := s _ _ h1
  refine ⟨ts.map V.ref, hD, by rw [List.length_map, h2.length], ts ++ [t], by rw [upd_same, List.map_append]; rfl, (h2.mono fun u pr q => ?_).snoc ?_⟩
  · have q1 := s _ _ q
    show upd H1 D _ u = _
    rw [upd_ne (ne_of q1 hD (by intro z; cases z))]
    exact q1
  · show upd H1 D _ t = _
    rw [upd_ne (ne_of e hD (by intro z; cases z))]
    exact e
theorem PrsAt.nil {H : Hp} {D : Addr} (h : H D = some (.lst [])) : PrsAt H D [] := ⟨[], h, .nil⟩
def Barred (b : Bk) (life : Int) (y : Str) (x : Int) : Prop := ∃ z, barOf life y x = some z ∧ z ∈ b.bars
instance (b : Bk) (life : Int) (y : Str) (x : Int) : Decidable (Barred b life y x) := match h : barOf life y x with
  | none => .isFalse (fun ⟨z, e, _⟩ => by rw [h] at e; cases e)
  | some u => if m : u ∈ b.bars then .isTrue ⟨u, h, m⟩ else .isFalse (fun ⟨z, e, q⟩ => by rw [h] at e; cases e; exact m q)
def allWants (n : Nat) : List (Str × Int) := ways2.flatMap fun y => (List.range n).map fun j => (y, (-1 : Int) + (j : Nat))
theorem mem_allWants {k : Int} (hk : 1 ≤ k) {y : Str} {x : Int} : (y, x) ∈ allWants (k + 2).toNat ↔ (y ∈ ways2 ∧ -1 ≤ x ∧ x ≤ k) := by
  unfold allWants
  rw [List.mem_flatMap]
  constructor
  · rintro ⟨z, hz, h⟩
    obtain ⟨j, hj, e⟩ := List.mem_map.mp h
    cases e
    rw [List.mem_range] at hj
    exact ⟨hz, by omega, by omega⟩
  · rintro ⟨h1, h2, h3⟩
    refine ⟨y, h1, List.mem_map.mpr ⟨(x + 1).toNat, List.mem_range.mpr (by omega), ?_⟩⟩
    rw [show (-1 : Int) + ((x + 1).toNat : Nat) = x by omega]
theorem len_allWants (n : Nat) : (allWants n).length = 2 * n := by
  simp [allWants, ways2, List.flatMap_cons]
  omega
theorem inV_opt (o : Option Str) (ws : List Str) : inV (optV o) (ws.map V.str) = decide (∃ z, o = some z ∧ z ∈ ws) := by
  cases o with
  | none =>
    rw [decide_eq_false (fun ⟨z, e, _⟩ => by cases e)]
    induction ws with
    | nil => rfl
    | cons y r ih => exact ih
  | some u =>
    show inV (.str u) (ws.map V.str) = _
    rw [inV_strs]
    exact decide_eq_decide.mpr ⟨fun h => ⟨u, rfl, h⟩, fun ⟨z, e, h⟩ => by cases e; exact h⟩
theorem flat_opt (o : Option Str) : flatV (optV o) = true := by
  cases o <;> rfl
def spWants (K : PySem.W.Frag) : Sp := fun vs H Q _ => ∃ (a : Addr) (b : Bk) (k l : Int), vs = [.ref a, .int k, .int l] ∧ BookAt K H a b ∧ 1 ≤ k ∧ k ≤ 3 ∧
  ∀ (p : Addr) (prs : List (Str × Int)) (H' : Hp), Same H H' → H p = none → PrsAt H' p prs → prs.length ≤ 20 → (∀ y x, (y, x) ∈ prs ↔ (y ∈ ways2 ∧ -1 ≤ x ∧ x ≤ k ∧ ¬ Barred b l y x)) → Q (.ref p) H'
theorem has_wants (T : Tx K mg) : Has P w K mg base "wants_of" 3 ["book", "depth", "life"] (spWants K) := by
  have h_bar_of : Has P w K mg base "bar_of" 1 ["life", "way", "wanted_life"] spBarOf := has_barOf T
  have a_Book_bars := a_bars (P := P) (w := w) (base := base) T
  refine has_of (k := 2) (g_wants_of T) (d_wants_of T) sc_wants_of (fun _ _ _ _ _ _ us hl => match us, hl with | [_, _, _], _ => rfl) (fun vs H Q E h => ?_) (fun cdv A outer s H vs Q E hr h => ?_)
  · obtain ⟨a, b, k, l, rfl, _⟩ := h
    rfl
  · obtain ⟨a, b, k, l, rfl, hb, k1, k3, q⟩ := h
    refine ⟨_, (pss_cons (ps_setLc2 (i := 3) (own := [("way", 4), ("wanted", 5)]) (g := gName 4) (tt := tYes) (vs1 := [5]) (g1 := gName 5) (tt1 := tYes) (by rfl) sc_wants_of.nd rfl rfl (sw_true rfl rfl rfl (by decide +kernel)) (pi_tup (pe_glob (v := .ref (He.ga K "WAYS")) rfl (g_WAYS T) rfl)) (blkOk_by (own := [("way", 4), ("wanted", 5)]) (N := N_wants_of) (sc := defScope s_wants_of) (by decide +kernel)) (by decide) (fun _ _ _ _ _ => (pg_name (i := 4) sc_wants_of.nd rfl (Or.inl rfl))) (fun _ _ _ _ _ => pts_nil) (fun _ _ _ _ _ => (pi_range2 (by rfl) (m_range T) (pa_cons (pe_gk rfl (k_USE T)) (pa_cons (pe_op op_add (pv 1) pe_int) pa_nil)))) (fun _ _ _ _ _ => (pg_name (i := 5) sc_wants_of.nd rfl (Or.inl rfl))) (fun _ _ _ _ _ => pts_nil) (fun _ _ _ _ _ => (pe_tup (pa_cons (pv 4) (pa_cons (pv 5) pa_nil))))) (pss_one (ps_ret (pe_lc (own := [("way", 4), ("wanted", 5)]) (g := gTup K 2 (gCons (gName 4) (gCons (gName 5) gNil))) (by rfl) sc_wants_of.nd (pi_list (pv 3)) (blkOk_by (own := [("way", 4), ("wanted", 5)]) (N := N_wants_of) (sc := defScope s_wants_of) (by decide +kernel)) (fun _ _ _ _ _ => (pg_tup (by rfl) (pgs_cons (pg_name (i := 4) sc_wants_of.nd rfl (Or.inl rfl)) (pgs_cons (pg_name (i := 5) sc_wants_of.nd rfl (Or.inl rfl)) pgs_nil)))) (fun _ _ _ _ _ => (pts_one (pt_cmpR (show OpR _ _ (rIn K true) from op_notIn_seq) (pe_has h_bar_of (hr.mono (by decide)) rfl (pa_cons (pv 2) (pa_cons (pv 4) (pa_cons (pv 5) pa_nil)))) (pe_atP a_Book_bars (cls_Book T) (pr_Book_bars T) (hr.mono (by decide)) (pv 0)) rfl))) (fun _ _ _ _ _ => (pe_tup (pa_cons (pv 4) (pa_cons (pv 5) pa_nil)))))))), ?_⟩
    refine ⟨_, rfl, ⟨_, c_WAYS T H⟩, fun D hD => out_tup (K := K) (a := He.ga K "WAYS") (xs := [.str "each", .str "held"]) (fun i H' => PrsAt H' D ((ways2.take i).flatMap fun y => (List.range (k + 2).toNat).map fun j => (y, (-1 : Int) + (j : Nat))) ∧ Same H H') ?_ ?_ ?_ ?_⟩
    · exact ⟨.nil upd_same, same_new hD⟩
    · rintro i H' _ ⟨_, _⟩
      exact c_WAYS T H'
    · rintro i x H1 hx ⟨pa, sm⟩
      obtain ⟨y, hy, ey⟩ : ∃ y : Str, ways2[i]? = some y ∧ x = .str y := by
        match i, hx with
        | 0, hx => cases hx; exact ⟨_, rfl, rfl⟩
        | 1, hx => cases hx; exact ⟨_, rfl, rfl⟩
        | i + 2, hx => simp at hx
      subst ey
      refine ⟨rfl, yes_ ⟨_, rfl, _, _, rfl, rfl, -1, k + 1, rfl, ⟨by decide, by decide, by omega, by omega⟩, ?_⟩⟩
      rw [show (k + 1 - -1).toNat = (k + 2).toNat from congrArg Int.toNat (by omega)]
      refine in_range (D := D) (fun j H' => PrsAt H' D (((ways2.take i).flatMap fun y => (List.range (k + 2).toNat).map fun j => (y, (-1 : Int) + (j : Nat))) ++ (List.range j).map fun j => (y, (-1 : Int) + (j : Nat))) ∧ Same H H') ⟨by simpa using pa, sm⟩ ?_ ?_
      · rintro j H2 hj ⟨pa2, sm2⟩
        refine ⟨rfl, yes_ ⟨_, rfl, _, rfl, by show 2 ≤ sizeLine; decide, fun t3 q3 => ?_⟩⟩
        generalize e3 : upd _ _ _ = H3; have s3 := new_s e3 q3; have f3 := new_f e3
        obtain ⟨acc, g1, g2, g3⟩ := pa2.push (pr := (y, (-1 : Int) + (j : Nat))) s3 f3
        refine ⟨acc, g1, ?_, ?_, same_upd (sm2.trans s3) hD⟩
        · rw [g2, List.length_append, List.length_map, List.length_range]
          have hi : i < 2 := (List.getElem?_eq_some_iff.mp hy).1
          have : ((ways2.take i).flatMap fun y => (List.range (k + 2).toNat).map fun j => (y, (-1 : Int) + (j : Nat))).length ≤ 10 := by
            match i, hi with
            | 0, _ => simp
            | 1, _ =>
              simp [ways2]
              omega
          exact Nat.lt_of_le_of_lt (by omega : _ ≤ 20) (by decide)
        · rw [List.range_succ, List.map_append, ← List.append_assoc]
          exact g3
      · rintro H2 ⟨pa2, sm2⟩
        refine ⟨?_, sm2⟩
        rw [take_succ' hy, List.flatMap_append]
        simpa using pa2
    · rintro H1 ⟨pa, sm⟩
      have pa : PrsAt H1 D (allWants (k + 2).toNat) := pa
      obtain ⟨ts, hts, pts⟩ := id pa
      have hlen := pts.length
      rw [len_allWants] at hlen
      have hb1 := hb.same sm
      refine ⟨_, rfl, D, rfl, ⟨_, SqL.of hts⟩, fun D2 hD2 => lc_list (K := K) (a := D) (xs := ts.map V.ref) (fun i H' => PrsAt H' D2 (((allWants (k + 2).toNat).take i).filter fun pr => !decide (Barred b l pr.1 pr.2)) ∧ Same H1 H') ⟨.nil upd_same, same_new hD2⟩ ?_ ?_ ?_⟩
      · rintro i H' _ ⟨_, sm'⟩
        exact SqL.of (sm' _ _ hts)
      · rintro i x H2 hx ⟨pa2, sm2⟩
        obtain ⟨t, ht, rfl⟩ : ∃ t, ts[i]? = some t ∧ x = .ref t := by
          rw [List.getElem?_map] at hx
          cases e : ts[i]? with
          | none => rw [e] at hx; cases hx
          | some t => rw [e] at hx; cases hx; exact ⟨t, rfl, rfl⟩
        obtain ⟨pr, hpr, etup⟩ := L2.paired_get pts ht
        obtain ⟨y, x⟩ := pr
        have hmem := (mem_allWants k1).mp (List.mem_of_getElem? hpr)
        have hb2 := hb1.same sm2
        obtain ⟨dx, tb, hA, hB⟩ := id hb2
        refine ⟨t, _, rfl, .inl (.inl (sm2 _ _ etup)), rfl, _, _, rfl, _, _, rfl, rfl, rfl, _, rfl, _, rfl, _, rfl, l, y, x, rfl, hmem.1, ?_⟩
        refine ⟨_, rfl, a, dx, _, rfl, hA, a, dx, _, _, rfl, hA, rfl, tb, _, rfl, .inr hB, flat_opt _, flat_strs _, _, rfl, ?_⟩
        show if (!inV (optV (barOf l y x)) (b.bars.map V.str)) = true then _ else _
        rw [inV_opt, show decide (∃ z, barOf l y x = some z ∧ z ∈ b.bars) = decide (Barred b l y x) from decide_eq_decide.mpr Iff.rfl]
        have ht1 := take_succ' hpr
        cases eb : decide (Barred b l y x) with
        | true =>
          refine iteF ⟨?_, sm2⟩
          rw [ht1, List.filter_append]
          simpa [eb] using pa2
        | false =>
          refine iteT ⟨_, rfl, _, rfl, by show 2 ≤ sizeLine; decide, fun t3 q3 => ?_⟩
          generalize e3 : upd _ _ _ = H3; have s3 := new_s e3 q3; have f3 := new_f e3
          obtain ⟨acc, g1, g2, g3⟩ := pa2.push (pr := (y, x)) s3 f3
          refine ⟨acc, g1, ?_, ?_, same_upd (sm2.trans s3) hD2⟩
          · rw [g2]
            have h1 := List.length_filter_le (fun pr : Str × Int => !decide (Barred b l pr.1 pr.2)) ((allWants (k + 2).toNat).take i)
            rw [List.length_take, len_allWants] at h1
            exact Nat.lt_of_le_of_lt (by omega : _ ≤ 20) (by decide)
          · rw [ht1, List.filter_append]
            simpa [eb] using g3
      · rintro H2 ⟨pa2, sm2⟩
        rw [List.length_map, hlen] at pa2
        rw [show (allWants (k + 2).toNat).take (2 * (k + 2).toNat) = allWants (k + 2).toNat by rw [← len_allWants, List.take_length]] at pa2
        refine q D2 _ H2 (sm.trans sm2) (same_none sm hD2) pa2 ?_ fun y x => ?_
        · have h1 := List.length_filter_le (fun pr : Str × Int => !decide (Barred b l pr.1 pr.2)) (allWants (k + 2).toNat)
          rw [len_allWants] at h1
          omega
        · rw [List.mem_filter, mem_allWants k1]
          simp [and_assoc]
end

end HL

namespace HL
open PySem PySem.Spec PyProof.Rows L2


section
variable {P : Program} {w : World} {K : PySem.W.Frag} {mg : Str → Option Value} {base : Heap}
/-! ### what is asked, what lacks -/
def asked (b : Bk) (k : Int) (s : Sd) (y : Str) : Int := if y = "held" then (if b.held = "home" then s.level else k) else (if b.each = "now" then k else 0)
def Lack (b : Bk) (k : Int) (s : Sd) : Prop := b.lifted = "nothing" ∧ ∃ (y : Str) (x : Int), y ∈ ways2 ∧ -1 ≤ x ∧ x ≤ k ∧ ¬ Barred b s.life y x ∧ asked b k s y < x
def spAsked (K : PySem.W.Frag) : Sp := fun vs H Q _ => ∃ (a t : Addr) (b : Bk) (k : Int) (s : Sd) (y : Str), vs = [.ref a, .int k, .ref t, .str y] ∧ BookAt K H a b ∧ H t = some (.tup s.vs) ∧
  ∀ (p : Addr) (v : V) (H' : Hp), Same H H' → H' p = some (.tup [.int (asked b k s y), v]) → Q (.ref p) H'
theorem has_asked (T : Tx K mg) : Has P w K mg base "asked_from" 3 ["book", "depth", "stand", "way"] (spAsked K) := by
  have a_Book_held := a_held (P := P) (w := w) (base := base) T
  have a_Book_each := a_each (P := P) (w := w) (base := base) T
  refine has_of (k := 2) (g_asked_from T) (d_asked_from T) sc_asked_from (fun _ _ _ _ _ _ us hl => match us, hl with | [_, _, _, _], _ => rfl) (fun vs H Q E h => ?_) (fun cdv A outer s H vs Q E hr h => ?_)
  · obtain ⟨a, t, b, k, s, y, rfl, _⟩ := h
    rfl
  · obtain ⟨a, t, b, k, s, y, rfl, ⟨dx, tb, hA, hB⟩, ht, q⟩ := h
    refine ⟨_, (pss_cons (ps_if (pt_cmpR op_eq (pv 3) pe_str (nomark _)) (pss_one (ps_ret (pe_tup (pa_cons (pe_ifExp (pt_cmpR op_eq (pe_atP a_Book_held (cls_Book T) (pr_Book_held T) (hr.mono (by decide)) (pv 0)) pe_str (nomark _)) (pe_ix ix_tup (pv 2) pe_int (fun _ _ => rfl)) (pv 1)) (pa_cons (pe_slice sl_tupA (pv 2) (po_some pe_int) (po_some pe_int)) pa_nil))))) pss_nil) (pss_one (ps_ret (pe_tup (pa_cons (pe_ifExp (pt_cmpR op_eq (pe_atP a_Book_each (cls_Book T) (pr_Book_each T) (hr.mono (by decide)) (pv 0)) pe_str (nomark _)) (pv 1) pe_int) (pa_cons (pe_tup (pa_cons (pe_gk rfl (k_OWN T)) (pa_cons pe_int (pa_cons pe_bl pa_nil)))) pa_nil)))))), ?_⟩
    unfold asked at q
    refine ⟨_, rfl, rfl, _, rfl, ?_⟩
    by_cases h1 : y = "held"
    · rw [decide_eq_true (show V.str y = V.str (Str.ofString "held") from congrArg V.str h1)]
      rw [if_pos h1] at q
      refine iteT ⟨_, rfl, a, dx, _, rfl, hA, a, dx, _, _, rfl, hA, rfl, rfl, _, rfl, ?_⟩
      by_cases h2 : b.held = "home"
      · rw [decide_eq_true (show V.str b.held = V.str (Str.ofString "home") from congrArg V.str h2)]
        rw [if_pos h2] at q
        refine iteT ⟨_, rfl, _, _, _, _, rfl, rfl, .inl (.inl ht), rfl, ?_⟩
        refine ⟨_, rfl, 2, rfl, 5, rfl, t, _, rfl, .inl (.inl ht), fun z => absurd z.1 (by show ¬ (2 = 0); decide), fun _ p1 q1 => ?_⟩
        generalize e1 : upd _ _ _ = H1; have s1 := new_s e1 q1; have f1 := new_f e1
        refine ⟨by show 2 ≤ sizeLine; decide, fun p2 q2 => ?_⟩
        generalize e2 : upd _ _ _ = H2; have s2 := new_s e2 q2; have f2 := new_f e2
        exact q p2 _ H2 (s1.trans s2) f2
      · rw [decide_eq_false (fun z => h2 (V.str.inj z))]
        rw [if_neg h2] at q
        refine iteF ⟨_, rfl, ?_⟩
        refine ⟨_, rfl, 2, rfl, 5, rfl, t, _, rfl, .inl (.inl ht), fun z => absurd z.1 (by show ¬ (2 = 0); decide), fun _ p1 q1 => ?_⟩
        generalize e1 : upd _ _ _ = H1; have s1 := new_s e1 q1; have f1 := new_f e1
        refine ⟨by show 2 ≤ sizeLine; decide, fun p2 q2 => ?_⟩
        generalize e2 : upd _ _ _ = H2; have s2 := new_s e2 q2; have f2 := new_f e2
        exact q p2 _ H2 (s1.trans s2) f2
    · rw [decide_eq_false (fun z => h1 (V.str.inj z))]
      rw [if_neg h1] at q
      refine iteF ⟨_, rfl, a, dx, _, rfl, hA, a, dx, _, _, rfl, hA, rfl, rfl, _, rfl, ?_⟩
      by_cases h2 : b.each = "now"
      · rw [decide_eq_true (show V.str b.each = V.str (Str.ofString "now") from congrArg V.str h2)]
        rw [if_pos h2] at q
        refine iteT ⟨_, rfl, by decide, fun p1 q1 => ?_⟩
        generalize e1 : upd _ _ _ = H1; have s1 := new_s e1 q1; have f1 := new_f e1
        refine ⟨by show 2 ≤ sizeLine; decide, fun p2 q2 => ?_⟩
        generalize e2 : upd _ _ _ = H2; have s2 := new_s e2 q2; have f2 := new_f e2
        exact q p2 _ H2 (s1.trans s2) f2
      · rw [decide_eq_false (fun z => h2 (V.str.inj z))]
        rw [if_neg h2] at q
        refine iteF ⟨by decide, fun p1 q1 => ?_⟩
        generalize e1 : upd _ _ _ = H1; have s1 := new_s e1 q1; have f1 := new_f e1
        refine ⟨by show 2 ≤ sizeLine; decide, fun p2 q2 => ?_⟩
        generalize e2 : upd _ _ _ = H2; have s2 := new_s e2 q2; have f2 := new_f e2
        exact q p2 _ H2 (s1.trans s2) f2
def spLacked (K : PySem.W.Frag) : Sp := fun vs H Q _ => ∃ (a t : Addr) (b : Bk) (k : Int) (s : Sd), vs = [.ref a, .int k, .ref t] ∧ BookAt K H a b ∧ b.Ok ∧ 1 ≤ k ∧ k ≤ 3 ∧ H t = some (.tup s.vs) ∧
  ∀ (p : Addr) (ys : List V) (H' : Hp), Same H H' → H' p = some (.lst ys) → (ys ≠ [] ↔ Lack b k s) → Q (.ref p) H'
theorem has_lacked (T : Tx K mg) : Has P w K mg base "lacked" 4 ["book", "depth", "stand"] (spLacked K) := by
  have a_Book_lifted := a_lifted (P := P) (w := w) (base := base) T
  have h_wants_of : Has P w K mg base "wants_of" 3 ["book", "depth", "life"] (spWants K) := has_wants T
  have h_asked_from : Has P w K mg base "asked_from" 3 ["book", "depth", "stand", "way"] (spAsked K) := has_asked T
  refine has_of (k := 3) (g_lacked T) (d_lacked T) sc_lacked (fun _ _ _ _ _ _ us hl => match us, hl with | [_, _, _], _ => rfl) (fun vs H Q E h => ?_) (fun cdv A outer s H vs Q E hr h => ?_)
  · obtain ⟨a, t, b, k, s, rfl, _⟩ := h
    rfl
  · obtain ⟨a, t, b, k, s, rfl, hb, ok, k1, k3, ht, q⟩ := h
    refine ⟨_, (pss_cons (ps_if (pt_cmpR op_eq (pe_atP a_Book_lifted (cls_Book T) (pr_Book_lifted T) (hr.mono (by decide)) (pv 0)) pe_str (nomark _)) (pss_one (ps_ret (pe_lst pa_nil))) pss_nil) (pss_cons (ps_set (i := 3) sc_lacked.nd rfl (Or.inl rfl) (pe_has h_wants_of (hr.mono (by decide)) rfl (pa_cons (pv 0) (pa_cons (pv 1) (pa_cons (pe_ix ix_tup (pv 2) pe_int (fun _ _ => rfl)) pa_nil))))) (pss_one (ps_ret (pe_lc (own := [("want", 4)]) (g := gName 4) (by rfl) sc_lacked.nd (pi_list (pv 3)) (blkOk_by (own := [("want", 4)]) (N := N_lacked) (sc := defScope s_lacked) (by decide +kernel)) (fun _ _ _ _ _ => (pg_name (i := 4) sc_lacked.nd rfl (Or.inl rfl))) (fun _ _ _ _ _ => (pts_one (pt_cmpR op_gt (pe_ix (show IxR _ (rIxT K) from ix_tup) (pv 4) pe_int (fun _ _ => rfl)) (pe_ix (show IxR _ (rIxT K) from ix_tup) (pe_has h_asked_from (hr.mono (by decide)) rfl (pa_cons (pv 0) (pa_cons (pv 1) (pa_cons (pv 2) (pa_cons (pe_ix (show IxR _ (rIxT K) from ix_tup) (pv 4) pe_int (fun _ _ => rfl)) pa_nil))))) pe_int (fun _ _ => rfl)) (nomark _)))) (fun _ _ _ _ _ => (pv 4))))))), ?_⟩
    obtain ⟨dx, tb, hA, hB⟩ := id hb
    refine ⟨_, rfl, a, dx, _, rfl, hA, a, dx, _, _, rfl, hA, rfl, rfl, _, rfl, ?_⟩
    have hl2 : b.lifted = "nothing" ∨ b.lifted = "kept" := by
      have := ok.l
      simp only [lift2, List.mem_cons, List.not_mem_nil, or_false] at this
      exact this
    by_cases h1 : b.lifted = "kept"
    · rw [decide_eq_true (show V.str b.lifted = V.str (Str.ofString "kept") from congrArg V.str h1)]
      refine iteT ⟨by decide, fun p1 q1 => ?_⟩
      generalize e1 : upd _ _ _ = H1; have s1 := new_s e1 q1; have f1 := new_f e1
      refine q p1 [] H1 s1 f1 ⟨fun z => absurd rfl z, fun z => ?_⟩
      have := z.1
      rw [h1] at this
      exact absurd this (by decide)
    · rw [decide_eq_false (fun z => h1 (V.str.inj z))]
      have hn : b.lifted = "nothing" := hl2.resolve_right h1
      refine iteF ⟨_, rfl, _, rfl, _, rfl, _, _, _, _, rfl, rfl, .inl (.inl ht), rfl, a, b, k, s.life, rfl, hb, k1, k3, fun p1 prs H1 s1 q1 pa hlen mem => ?_⟩
      obtain ⟨ts, hts, pts⟩ := id pa
      refine ⟨_, rfl, p1, rfl, ⟨_, SqL.of hts⟩, fun D hD => lc_list (K := K) (a := p1) (xs := ts.map V.ref) (fun i H' => ∃ ys : List V, H' D = some (.lst ys) ∧ Same H1 H' ∧ ys.length ≤ i ∧ (ys ≠ [] ↔ ∃ pr ∈ prs.take i, asked b k s pr.1 < pr.2)) ⟨[], upd_same, same_new hD, Nat.le_refl _, ⟨fun z => absurd rfl z, fun ⟨_, z, _⟩ => by simp at z⟩⟩ ?_ ?_ ?_⟩
      · rintro i H' _ ⟨_, _, sm, _⟩
        exact SqL.of (sm _ _ hts)
      · rintro i x H2 hx ⟨ys, hD2, sm2, hly, iff2⟩
        obtain ⟨t', ht', rfl⟩ : ∃ t', ts[i]? = some t' ∧ x = .ref t' := by
          rw [List.getElem?_map] at hx
          cases e : ts[i]? with
          | none => rw [e] at hx; cases hx
          | some t => rw [e] at hx; cases hx; exact ⟨t, rfl, rfl⟩
        obtain ⟨⟨y, x⟩, hpr, etup⟩ := L2.paired_get pts ht'
        have et2 := sm2 _ _ etup
        have hi : i < 20 := by
          have := (List.getElem?_eq_some_iff.mp hpr).1
          omega
        have sm0 := s1.trans sm2
        refine ⟨rfl, _, rfl, _, _, _, _, rfl, rfl, .inl (.inl et2), rfl, _, rfl, _, rfl, _, rfl, _, rfl, _, _, _, _, rfl, rfl, .inl (.inl et2), rfl, ?_⟩
        refine ⟨a, t, b, k, s, y, rfl, hb.same sm0, sm0 _ _ ht, fun p3 v3 H3 s3 f3 => ?_⟩
        refine ⟨_, _, _, _, rfl, rfl, .inl (.inl f3), rfl, _, _, rfl, rfl, _, rfl, ?_⟩
        have ht1 := take_succ' hpr
        cases ec : decide (asked b k s y < x) with
        | true =>
          have hc := of_decide_eq_true ec
          refine iteT ⟨_, rfl, ys, s3 _ _ hD2, Nat.lt_of_le_of_lt (Nat.le_trans hly (Nat.le_of_lt hi)) (by decide), ys ++ [.ref t'], upd_same, same_upd (sm2.trans s3) hD, by rw [List.length_append, List.length_singleton]; omega, ?_⟩
          rw [ht1]
          exact ⟨fun _ => ⟨(y, x), by simp, hc⟩, fun _ z => by simp at z⟩
        | false =>
          have hc := of_decide_eq_false ec
          refine iteF ⟨ys, s3 _ _ hD2, sm2.trans s3, by omega, ?_⟩
          rw [ht1, iff2]
          constructor
          · rintro ⟨pr, m, h⟩
            exact ⟨pr, List.mem_append_left _ m, h⟩
          · rintro ⟨pr, m, h⟩
            rcases List.mem_append.mp m with m | m
            · exact ⟨pr, m, h⟩
            · rw [List.mem_singleton.mp m] at h
              exact absurd h hc
      · rintro H2 ⟨ys, hD2, sm2, hly, iff2⟩
        rw [List.length_map, pts.length, List.take_length] at iff2
        refine q D ys H2 (s1.trans sm2) hD2 (iff2.trans ?_)
        constructor
        · rintro ⟨⟨y, x⟩, m, h⟩
          have := (mem y x).mp m
          exact ⟨hn, y, x, this.1, this.2.1, this.2.2.1, this.2.2.2, h⟩
        · rintro ⟨_, y, x, h1, h2, h3, h4, h5⟩
          exact ⟨(y, x), (mem y x).mpr ⟨h1, h2, h3, h4⟩, h5⟩
end

end HL

namespace HL
open PySem PySem.Spec PyProof.Rows L2


section
variable {P : Program} {w : World} {K : PySem.W.Frag} {mg : Str → Option Value} {base : Heap}
def spLacks (K : PySem.W.Frag) : Sp := fun vs H Q _ => ∃ (a t : Addr) (b : Bk) (k : Int) (s : Sd), vs = [.ref a, .int k, .ref t] ∧ BookAt K H a b ∧ b.Ok ∧ 1 ≤ k ∧ k ≤ 3 ∧ H t = some (.tup s.vs) ∧ s.Form k ∧
  ∀ (β : Bool) (H' : Hp), Same H H' → (β = true ↔ Lack b k s) → Q (.bl β) H'
theorem isE {ys : List V} : (!ys.isEmpty) = true ↔ ys ≠ [] := by
  cases ys <;> simp
theorem fn_lacks (T : Tx K mg) : ∃ fd, FunD K "lacks" "lacks" (defArgs s_lacks) (defBody s_lacks) (defScope s_lacks) [] [] (gAt "lacks" K) fd ∧ FnOk P w K mg base CX0 5 (gAt "lacks" K) fd ["book", "depth", "stand"] (spLacks K) := by
  have h_need_book : Has P w K mg base "need_book" 1 ["book"] (spNeedBook K) := has_needBook T
  have h_need_depth : Has P w K mg base "need_depth" 2 ["depth"] spNeedDepth := has_needDepth T
  have h_need_stand : Has P w K mg base "need_stand" 3 ["depth", "stand"] spNeedStand := has_needStand T
  have h_lacked : Has P w K mg base "lacked" 4 ["book", "depth", "stand"] (spLacked K) := has_lacked T
  obtain ⟨fd, F⟩ := d_lacks T
  refine ⟨fd, F, F.ok sc_lacks (fun vs H Q E h => ?_) (fun cdv A outer s H vs Q E hr h => ?_)⟩
  · obtain ⟨a, t, b, k, s, rfl, _⟩ := h
    rfl
  · obtain ⟨a, t, b, k, s, rfl, hb, ok, k1, k3, ht, fm, q⟩ := h
    suffices h : ∃ t', PSs (cxOf CX0 P w K mg base N_lacks "lacks" (defScope s_lacks) (gAt "lacks" K) cdv A outer _ H E).nox (defBody s_lacks) t' ∧ t' { nx := fun _ H' => Q .non H', rt := Q } (start N_lacks [.ref a, .int k, .ref t]) H by
      obtain ⟨t, h1, h2⟩ := h
      exact ⟨t, h1.nox, h2⟩
    refine ⟨_, (pss_cons (ps_expr (pe_has h_need_book (hr.mono (by decide)) rfl (pa_cons (pv 0) pa_nil))) (pss_cons (ps_expr (pe_has h_need_depth (hr.mono (by decide)) rfl (pa_cons (pv 1) pa_nil))) (pss_cons (ps_expr (pe_has h_need_stand (hr.mono (by decide)) rfl (pa_cons (pv 1) (pa_cons (pv 2) pa_nil)))) (pss_one (ps_ret (pe_cmpR (op_neNil hr.units) (pe_has h_lacked (hr.mono (by decide)) rfl (pa_cons (pv 0) (pa_cons (pv 1) (pa_cons (pv 2) pa_nil)))) (pe_lst pa_nil) (nomark _))))))), ?_⟩
    refine ⟨_, rfl, a, b, rfl, hb, _, rfl, k, rfl, k1, k3, _, rfl, _, rfl, k, t, s, rfl, ht, fm, fun H1 s1 => ?_⟩
    refine ⟨_, rfl, _, rfl, _, rfl, a, t, b, k, s, rfl, hb.same s1, ok, k1, k3, s1 _ _ ht, fun p ys H2 s2 f2 iff2 => ?_⟩
    refine ⟨by decide, fun p3 q3 => ?_⟩
    generalize e3 : upd _ _ _ = H3; have s3 := new_s e3 q3; have f3 := new_f e3
    exact ⟨p, p3, ys, rfl, rfl, SqL.of (s3 _ _ f2), SqL.of f3, q _ H3 ((s1.trans s2).trans s3) (isE.trans iff2)⟩
/-! ### faults -/
def Far (s : Sd) : Prop := s.made = "other" ∧ s.common < s.level
instance (s : Sd) : Decidable (Far s) := inferInstanceAs (Decidable (_ ∧ _))
def Bad (b : Bk) (k : Int) (z : Str) (s : Sd) : Prop := if z = "ended" then Far s ∧ s.past = true ∧ (s.life ≠ -1 ∨ b.ends = "scope") else if z = "strayed" then s.life ≠ -1 ∧ (s.level ≠ s.life ∨ Far s)
  else if z = "missing" then Lack b k s else s.life = -1 ∧ s.rooted = false ∧ (b.ends = "never" ∨ (b.ends = "scope" ∧ s.level = 0))
def spFar : Sp := fun vs H Q _ => ∃ (t : Addr) (s : Sd), vs = [.ref t] ∧ H t = some (.tup s.vs) ∧ Q (.bl (decide (Far s))) H
theorem has_far (T : Tx K mg) : Has P w K mg base "is_far" 1 ["stand"] spFar := by
  refine has_of (k := 0) (g_is_far T) (d_is_far T) sc_is_far (fun _ _ _ _ _ _ us hl => match us, hl with | [_], _ => rfl) (fun vs H Q E h => ?_) (fun cdv A outer s H vs Q E hr h => ?_)
  · obtain ⟨t, s, rfl, _⟩ := h
    rfl
  · obtain ⟨t, s, rfl, ht, q⟩ := h
    refine ⟨_, (pss_one (ps_ret (pe_and (pe_cmpR op_eq (pe_ix ix_tup (pv 0) pe_int (fun _ _ => rfl)) (pe_gk rfl (k_OTHER T)) (nomark _)) (pe_one (pe_cmpR op_gt (pe_ix ix_tup (pv 0) pe_int (fun _ _ => rfl)) (pe_ix ix_tup (pv 0) pe_int (fun _ _ => rfl)) (nomark _)))))), ?_⟩
    refine ⟨_, rfl, _, _, _, _, rfl, rfl, .inl (.inl ht), rfl, rfl, _, rfl, ?_⟩
    by_cases h1 : s.made = "other"
    · rw [decide_eq_true (show V.str s.made = V.str (Str.ofString "other") from congrArg V.str h1)]
      refine iteT ⟨_, rfl, _, _, _, _, rfl, rfl, .inl (.inl ht), rfl, _, rfl, _, _, _, _, rfl, rfl, .inl (.inl ht), rfl, _, _, rfl, rfl, ?_⟩
      rw [show decide (Far s) = decide (s.common < s.level) from decide_eq_decide.mpr ⟨fun z => z.2, fun z => ⟨h1, z⟩⟩] at q
      exact q
    · rw [decide_eq_false (fun z => h1 (V.str.inj z))]
      rw [decide_eq_false (fun z : Far s => h1 z.1)] at q
      exact iteF q
end

end HL

namespace HL
open PySem PySem.Spec PyProof.Rows L2


section
variable {P : Program} {w : World} {K : PySem.W.Frag} {mg : Str → Option Value} {base : Heap}
def spBad (K : PySem.W.Frag) : Sp := fun vs H Q _ => ∃ (a t : Addr) (b : Bk) (k : Int) (z : Str) (s : Sd), vs = [.ref a, .int k, .str z, .ref t] ∧ BookAt K H a b ∧ b.Ok ∧ 1 ≤ k ∧ k ≤ 3 ∧ H t = some (.tup s.vs) ∧
  ∀ (β : Bool) (H' : Hp), Same H H' → (β = true ↔ Bad b k z s) → Q (.bl β) H'
theorem has_bad (T : Tx K mg) : Has P w K mg base "is_bad" 5 ["book", "depth", "fault", "stand"] (spBad K) := by
  have h_is_far : Has P w K mg base "is_far" 1 ["stand"] spFar := has_far T
  have h_lacked : Has P w K mg base "lacked" 4 ["book", "depth", "stand"] (spLacked K) := has_lacked T
  have a_Book_ends := a_ends (P := P) (w := w) (base := base) T
  refine has_of (k := 4) (g_is_bad T) (d_is_bad T) sc_is_bad (fun _ _ _ _ _ _ us hl => match us, hl with | [_, _, _, _], _ => rfl) (fun vs H Q E h => ?_) (fun cdv A outer s H vs Q E hr h => ?_)
  · obtain ⟨a, t, b, k, z, s, rfl, _⟩ := h
    rfl
  · obtain ⟨a, t, b, k, z, s, rfl, hb, ok, k1, k3, ht, q⟩ := h
    refine ⟨_, (pss_cons (ps_asg (pv 3) (pg_tup (by rfl) (pgs_cons (pg_name (i := 4) sc_is_bad.nd rfl (Or.inl rfl)) (pgs_cons (pg_name (i := 5) sc_is_bad.nd rfl (Or.inl rfl)) (pgs_cons (pg_name (i := 6) sc_is_bad.nd rfl (Or.inl rfl)) (pgs_cons (pg_name (i := 7) sc_is_bad.nd rfl (Or.inl rfl)) (pgs_cons (pg_name (i := 8) sc_is_bad.nd rfl (Or.inl rfl)) (pgs_cons (pg_name (i := 9) sc_is_bad.nd rfl (Or.inl rfl)) pgs_nil)))))))) (pss_cons (ps_if (pt_cmpR op_eq (pv 2) pe_str (nomark _)) (pss_one (ps_ret (pe_and (pe_has h_is_far (hr.mono (by decide)) rfl (pa_cons (pv 3) pa_nil)) (pe_and (pv 8) (pe_one (pe_or (pe_cmpR op_ne (pv 4) (pe_gk rfl (k_USE T)) (nomark _)) (pe_one (pe_cmpR op_eq (pe_atP a_Book_ends (cls_Book T) (pr_Book_ends T) (hr.mono (by decide)) (pv 0)) pe_str (nomark _))))))))) pss_nil) (pss_cons (ps_if (pt_cmpR op_eq (pv 2) pe_str (nomark _)) (pss_one (ps_ret (pe_and (pe_cmpR op_ne (pv 4) (pe_gk rfl (k_USE T)) (nomark _)) (pe_one (pe_or (pe_cmpR op_ne (pv 5) (pv 4) (nomark _)) (pe_one (pe_has h_is_far (hr.mono (by decide)) rfl (pa_cons (pv 3) pa_nil)))))))) pss_nil) (pss_cons (ps_if (pt_cmpR op_eq (pv 2) pe_str (nomark _)) (pss_one (ps_ret (pe_cmpR (op_neNil hr.units) (pe_has h_lacked (hr.mono (by decide)) rfl (pa_cons (pv 0) (pa_cons (pv 1) (pa_cons (pv 3) pa_nil)))) (pe_lst pa_nil) (nomark _)))) pss_nil) (pss_one (ps_ret (pe_and (pe_cmpR op_eq (pv 4) (pe_gk rfl (k_USE T)) (nomark _)) (pe_and (pe_not (pv 9)) (pe_one (pe_or (pe_cmpR op_eq (pe_atP a_Book_ends (cls_Book T) (pr_Book_ends T) (hr.mono (by decide)) (pv 0)) pe_str (nomark _)) (pe_one (pe_and (pe_cmpR op_eq (pe_atP a_Book_ends (cls_Book T) (pr_Book_ends T) (hr.mono (by decide)) (pv 0)) pe_str (nomark _)) (pe_one (pe_cmpR op_eq (pv 5) pe_int (nomark _))))))))))))))), ?_⟩
    obtain ⟨dx, tb, hA, hB⟩ := id hb
    unfold Bad at q
    refine ⟨_, rfl, t, _, rfl, .inl (.inl ht), rfl, _, _, rfl, _, _, rfl, _, _, rfl, _, _, rfl, _, _, rfl, _, _, rfl, rfl, ?_⟩
    refine ⟨_, rfl, rfl, _, rfl, ?_⟩
    by_cases h1 : z = "ended"
    · rw [decide_eq_true (show V.str z = V.str (Str.ofString "ended") from congrArg V.str h1)]
      rw [if_pos h1] at q
      refine iteT ⟨_, rfl, t, s, rfl, ht, _, rfl, ?_⟩
      by_cases g1 : Far s
      · rw [decide_eq_true g1]
        refine iteT ⟨_, rfl, s.past, rfl, ?_⟩
        by_cases g2 : s.past = true
        · rw [g2]
          refine iteT ⟨_, rfl, rfl, _, rfl, ?_⟩
          by_cases g3 : s.life = -1
          · rw [decide_eq_true (show V.int s.life = V.int (-1) from congrArg V.int g3)]
            refine iteF ⟨_, rfl, a, dx, _, rfl, hA, a, dx, _, _, rfl, hA, rfl, rfl, ?_⟩
            exact q _ H (Same.refl _) ⟨fun e => ⟨g1, g2, .inr (V.str.inj (of_decide_eq_true e))⟩, fun e => decide_eq_true (congrArg V.str (e.2.2.resolve_left fun x => x g3))⟩
          · rw [decide_eq_false (fun e => g3 (V.int.inj e))]
            exact iteT (q true H (Same.refl _) ⟨fun _ => ⟨g1, g2, .inl g3⟩, fun _ => rfl⟩)
        · rw [Bool.not_eq_true] at g2
          rw [g2]
          exact iteF (q false H (Same.refl _) ⟨fun e => (by cases e), fun e => by rw [g2] at e; cases e.2.1⟩)
      · rw [decide_eq_false g1]
        exact iteF (q false H (Same.refl _) ⟨fun e => (by cases e), fun e => absurd e.1 g1⟩)
    · rw [decide_eq_false (fun e => h1 (V.str.inj e))]
      rw [if_neg h1] at q
      refine iteF ⟨_, rfl, rfl, _, rfl, ?_⟩
      by_cases h2 : z = "strayed"
      · rw [decide_eq_true (show V.str z = V.str (Str.ofString "strayed") from congrArg V.str h2)]
        rw [if_pos h2] at q
        refine iteT ⟨_, rfl, rfl, _, rfl, ?_⟩
        by_cases g3 : s.life = -1
        · rw [decide_eq_true (show V.int s.life = V.int (-1) from congrArg V.int g3)]
          exact iteF (q false H (Same.refl _) ⟨fun e => (by cases e), fun e => absurd g3 e.1⟩)
        · rw [decide_eq_false (fun e => g3 (V.int.inj e))]
          refine iteT ⟨_, rfl, _, rfl, rfl, _, rfl, ?_⟩
          by_cases g4 : s.level = s.life
          · rw [decide_eq_true (show V.int s.level = V.int s.life from congrArg V.int g4)]
            refine iteF ⟨_, rfl, t, s, rfl, ht, ?_⟩
            exact q _ H (Same.refl _) ⟨fun e => ⟨g3, .inr (of_decide_eq_true e)⟩, fun e => decide_eq_true (e.2.resolve_left fun x => x g4)⟩
          · rw [decide_eq_false (fun e => g4 (V.int.inj e))]
            exact iteT (q true H (Same.refl _) ⟨fun _ => ⟨g3, .inl g4⟩, fun _ => rfl⟩)
      · rw [decide_eq_false (fun e => h2 (V.str.inj e))]
        rw [if_neg h2] at q
        refine iteF ⟨_, rfl, rfl, _, rfl, ?_⟩
        by_cases h3 : z = "missing"
        · rw [decide_eq_true (show V.str z = V.str (Str.ofString "missing") from congrArg V.str h3)]
          rw [if_pos h3] at q
          refine iteT ⟨_, rfl, _, rfl, _, rfl, a, t, b, k, s, rfl, hb, ok, k1, k3, ht, fun p ys H2 s2 f2 iff2 => ?_⟩
          refine ⟨by decide, fun p3 q3 => ?_⟩
          generalize e3 : upd _ _ _ = H3; have s3 := new_s e3 q3; have f3 := new_f e3
          exact ⟨p, p3, ys, rfl, rfl, SqL.of (s3 _ _ f2), SqL.of f3, q _ H3 (s2.trans s3) (isE.trans iff2)⟩
        · rw [decide_eq_false (fun e => h3 (V.str.inj e))]
          rw [if_neg h3] at q
          refine iteF ⟨_, rfl, rfl, _, rfl, ?_⟩
          by_cases g3 : s.life = -1
          · rw [decide_eq_true (show V.int s.life = V.int (-1) from congrArg V.int g3)]
            refine iteT ⟨_, rfl, s.rooted, rfl, _, rfl, ?_⟩
            cases g4 : s.rooted with
            | true => exact iteF (q false H (Same.refl _) ⟨fun e => (by cases e), fun e => by rw [g4] at e; cases e.2.1⟩)
            | false =>
              refine iteT ⟨_, rfl, a, dx, _, rfl, hA, a, dx, _, _, rfl, hA, rfl, rfl, _, rfl, ?_⟩
              by_cases g5 : b.ends = "never"
              · rw [decide_eq_true (show V.str b.ends = V.str (Str.ofString "never") from congrArg V.str g5)]
                exact iteT (q true H (Same.refl _) ⟨fun _ => ⟨g3, g4, .inl g5⟩, fun _ => rfl⟩)
              · rw [decide_eq_false (fun e => g5 (V.str.inj e))]
                refine iteF ⟨_, rfl, a, dx, _, rfl, hA, a, dx, _, _, rfl, hA, rfl, rfl, _, rfl, ?_⟩
                by_cases g6 : b.ends = "scope"
                · rw [decide_eq_true (show V.str b.ends = V.str (Str.ofString "scope") from congrArg V.str g6)]
                  refine iteT ⟨_, rfl, rfl, ?_⟩
                  exact q _ H (Same.refl _) ⟨fun e => ⟨g3, g4, .inr ⟨g6, V.int.inj (of_decide_eq_true e)⟩⟩, fun e => decide_eq_true (congrArg V.int (e.2.2.resolve_left fun x => g5 x).2)⟩
                · rw [decide_eq_false (fun e => g6 (V.str.inj e))]
                  exact iteF (q false H (Same.refl _) ⟨fun e => (by cases e), fun e => absurd (e.2.2.resolve_left fun x => g5 x).1 g6⟩)
          · rw [decide_eq_false (fun e => g3 (V.int.inj e))]
            exact iteF (q false H (Same.refl _) ⟨fun e => (by cases e), fun e => absurd e.1 g3⟩)
def spWrong (K : PySem.W.Frag) : Sp := fun vs H Q _ => ∃ (a t : Addr) (b : Bk) (k : Int) (z : Str) (s : Sd), vs = [.ref a, .int k, .str z, .ref t] ∧ BookAt K H a b ∧ b.Ok ∧ 1 ≤ k ∧ k ≤ 3 ∧ z ∈ four ∧ H t = some (.tup s.vs) ∧ s.Form k ∧
  ∀ (β : Bool) (H' : Hp), Same H H' → (β = true ↔ Bad b k z s) → Q (.bl β) H'
theorem fn_wrong (T : Tx K mg) : ∃ fd, FunD K "is_wrong" "is_wrong" (defArgs s_is_wrong) (defBody s_is_wrong) (defScope s_is_wrong) [] [] (gAt "is_wrong" K) fd ∧ FnOk P w K mg base CX0 6 (gAt "is_wrong" K) fd ["book", "depth", "fault", "stand"] (spWrong K) := by
  have h_need_book : Has P w K mg base "need_book" 1 ["book"] (spNeedBook K) := has_needBook T
  have h_need_depth : Has P w K mg base "need_depth" 2 ["depth"] spNeedDepth := has_needDepth T
  have h_need_fault : Has P w K mg base "need_fault" 1 ["fault"] spNeedFault := has_needFault T
  have h_need_stand : Has P w K mg base "need_stand" 3 ["depth", "stand"] spNeedStand := has_needStand T
  have h_is_bad : Has P w K mg base "is_bad" 5 ["book", "depth", "fault", "stand"] (spBad K) := has_bad T
  obtain ⟨fd, F⟩ := d_is_wrong T
  refine ⟨fd, F, F.ok sc_is_wrong (fun vs H Q E h => ?_) (fun cdv A outer s H vs Q E hr h => ?_)⟩
  · obtain ⟨a, t, b, k, z, s, rfl, _⟩ := h
    rfl
  · obtain ⟨a, t, b, k, z, s, rfl, hb, ok, k1, k3, hz, ht, fm, q⟩ := h
    suffices h : ∃ t', PSs (cxOf CX0 P w K mg base N_is_wrong "is_wrong" (defScope s_is_wrong) (gAt "is_wrong" K) cdv A outer _ H E).nox (defBody s_is_wrong) t' ∧ t' { nx := fun _ H' => Q .non H', rt := Q } (start N_is_wrong [.ref a, .int k, .str z, .ref t]) H by
      obtain ⟨t, h1, h2⟩ := h
      exact ⟨t, h1.nox, h2⟩
    refine ⟨_, (pss_cons (ps_expr (pe_has h_need_book (hr.mono (by decide)) rfl (pa_cons (pv 0) pa_nil))) (pss_cons (ps_expr (pe_has h_need_depth (hr.mono (by decide)) rfl (pa_cons (pv 1) pa_nil))) (pss_cons (ps_expr (pe_has h_need_fault (hr.mono (by decide)) rfl (pa_cons (pv 2) pa_nil))) (pss_cons (ps_expr (pe_has h_need_stand (hr.mono (by decide)) rfl (pa_cons (pv 1) (pa_cons (pv 3) pa_nil)))) (pss_one (ps_ret (pe_has h_is_bad (hr.mono (by decide)) rfl (pa_cons (pv 0) (pa_cons (pv 1) (pa_cons (pv 2) (pa_cons (pv 3) pa_nil))))))))))), ?_⟩
    refine ⟨_, rfl, a, b, rfl, hb, _, rfl, k, rfl, k1, k3, _, rfl, z, rfl, hz, _, rfl, _, rfl, k, t, s, rfl, ht, fm, fun H1 s1 => ?_⟩
    exact ⟨_, rfl, _, rfl, _, rfl, _, rfl, a, t, b, k, z, s, rfl, hb.same s1, ok, k1, k3, s1 _ _ ht, fun β H2 s2 iff2 => q β H2 (s1.trans s2) iff2⟩
end

end HL

namespace HL
open PySem PySem.Spec PyProof.Rows L2


section
variable {P : Program} {w : World} {K : PySem.W.Frag} {mg : Str → Option Value} {base : Heap}
/-! ### the law's own defs -/
def spFour : Sp := fun vs H Q _ => vs = [] ∧ ∀ l, H l = none → Q (.ref l) (upd H l (.lst (four.map V.str)))
theorem has_four (T : Tx K mg) : Has P w K mg base "_law_four" 1 [] spFour := by
  refine has_of (k := 0) (g_law_four T) (d_law_four T) sc_law_four (fun _ _ _ _ _ _ us hl => match us, hl with | [], _ => rfl) (fun vs H Q E h => ?_) (fun cdv A outer s H vs Q E hr h => ?_)
  · obtain ⟨rfl, _⟩ := h
    rfl
  · obtain ⟨rfl, k⟩ := h
    exact ⟨_, (pss_one (ps_ret (pe_lst (pa_cons pe_str (pa_cons pe_str (pa_cons pe_str (pa_cons pe_str pa_nil))))))), by show 4 ≤ sizeLine; decide, k⟩
def lbar (life : Int) (way : Str) (x : Int) : Str := (barOf life way x).getD ""
def spLBar : Sp := fun vs H Q _ => ∃ (l : Int) (y : Str) (x : Int), vs = [.int l, .str y, .int x] ∧ y ∈ ways2 ∧ Q (.str (lbar l y x)) H
theorem has_lbar (T : Tx K mg) : Has P w K mg base "_law_bar" 1 ["_law_life", "_law_way", "_law_wanted"] spLBar := by
  refine has_of (k := 0) (g_law_bar T) (d_law_bar T) sc_law_bar (fun _ _ _ _ _ _ us hl => match us, hl with | [_, _, _], _ => rfl) (fun vs H Q E h => ?_) (fun cdv A outer s H vs Q E hr h => ?_)
  · obtain ⟨l, y, x, rfl, _⟩ := h
    rfl
  · obtain ⟨l, y, x, rfl, hy, q⟩ := h
    have ly := ways_len hy
    refine ⟨_, (pss_cons (ps_if (pt_cmpR op_eq (pv 0) (pe_un un_neg pe_int) (nomark _)) (pss_one (ps_ret (pe_ifExp (pt_cmpR op_gt (pv 2) pe_int (nomark _)) (pe_op op_add_str pe_str (pv 1)) pe_str))) pss_nil) (pss_cons (ps_if (pt_cmpR op_eq (pv 2) (pe_un un_neg pe_int) (nomark _)) (pss_one (ps_ret (pe_op op_add_str (pv 1) pe_str))) pss_nil) (pss_one (ps_ret (pe_ifExp (pt_cmpR op_gt (pv 2) (pv 0) (nomark _)) (pe_op op_add_str (pv 1) pe_str) pe_str))))), ?_⟩
    unfold lbar barOf at q
    refine ⟨_, rfl, _, rfl, rfl, _, rfl, ?_⟩
    by_cases h1 : l = -1
    · rw [decide_eq_true (show V.int l = V.int (-1) from congrArg V.int h1)]
      rw [if_pos h1] at q
      refine iteT ⟨_, rfl, _, _, rfl, rfl, _, rfl, ?_⟩
      by_cases h2 : 0 < x
      · rw [decide_eq_true h2]
        rw [if_pos h2] at q
        exact iteT ⟨_, rfl, _, _, rfl, rfl, by rw [ly]; decide, q⟩
      · rw [decide_eq_false h2]
        rw [if_neg h2] at q
        exact iteF q
    · rw [decide_eq_false (fun z => h1 (V.int.inj z))]
      rw [if_neg h1] at q
      refine iteF ⟨_, rfl, _, rfl, rfl, _, rfl, ?_⟩
      by_cases h2 : x = -1
      · rw [decide_eq_true (show V.int x = V.int (-1) from congrArg V.int h2)]
        rw [if_pos h2] at q
        exact iteT ⟨_, rfl, _, _, rfl, rfl, by rw [ly]; decide, q⟩
      · rw [decide_eq_false (fun z => h2 (V.int.inj z))]
        rw [if_neg h2] at q
        refine iteF ⟨_, rfl, _, rfl, _, _, rfl, rfl, _, rfl, ?_⟩
        by_cases h3 : l < x
        · rw [decide_eq_true h3]
          rw [if_pos h3] at q
          exact iteT ⟨_, rfl, _, _, rfl, rfl, by rw [ly]; decide, q⟩
        · rw [decide_eq_false h3]
          rw [if_neg h3] at q
          exact iteF q
/-- the law's bar is barred just if the program's is (the empty text is no bar) -/
theorem lbar_iff {b : Bk} (ok : b.Ok) {l : Int} {y : Str} {x : Int} : lbar l y x ∈ b.bars ↔ Barred b l y x := by
  unfold lbar Barred
  cases e : barOf l y x with
  | none =>
    refine ⟨fun h => ?_, fun ⟨z, q, _⟩ => by cases q⟩
    exact absurd (ok.r _ h) (by decide)
  | some u => exact ⟨fun h => ⟨u, rfl, h⟩, fun ⟨z, q, h⟩ => by cases q; exact h⟩
def spAskedL : Sp := fun vs H Q _ => ∃ (d p t : Addr) (b : Bk) (k : Int) (s : Sd) (y : Str), vs = [.ref d, .int k, .ref t, .str y] ∧ FAt H d p b ∧ H t = some (.tup s.vs) ∧ Q (.int (asked b k s y)) H
theorem has_askedL (T : Tx K mg) : Has P w K mg base "_law_level_asked" 1 ["_law_fields", "_law_deep", "_law_own", "_law_way"] spAskedL := by
  refine has_of (k := 0) (g_law_level_asked T) (d_law_level_asked T) sc_law_level_asked (fun _ _ _ _ _ _ us hl => match us, hl with | [_, _, _, _], _ => rfl) (fun vs H Q E h => ?_) (fun cdv A outer s H vs Q E hr h => ?_)
  · obtain ⟨d, p, t, b, k, s, y, rfl, _⟩ := h
    rfl
  · obtain ⟨d, p, t, b, k, s, y, rfl, hf, ht, q⟩ := h
    have hu := hu_of hr
    refine ⟨_, (pss_cons (ps_if (pt_cmpR op_eq (pv 3) pe_str (nomark _)) (pss_one (ps_ret (pe_ifExp (pt_cmpR op_eq (pe_dget hu (pv 0) pe_str (fun _ _ => rfl)) pe_str (nomark _)) (pe_ix ix_tup (pv 2) pe_int (fun _ _ => rfl)) (pv 1)))) pss_nil) (pss_one (ps_ret (pe_ifExp (pt_cmpR op_eq (pe_dget hu (pv 0) pe_str (fun _ _ => rfl)) pe_str (nomark _)) (pv 1) pe_int)))), ?_⟩
    unfold asked at q
    refine ⟨_, rfl, rfl, _, rfl, ?_⟩
    by_cases h1 : y = "held"
    · rw [decide_eq_true (show V.str y = V.str (Str.ofString "held") from congrArg V.str h1)]
      rw [if_pos h1] at q
      refine iteT ⟨_, rfl, d, _, rfl, hf.held, rfl, _, rfl, ?_⟩
      by_cases h2 : b.held = "home"
      · rw [decide_eq_true (show V.str b.held = V.str (Str.ofString "home") from congrArg V.str h2)]
        rw [if_pos h2] at q
        exact iteT ⟨_, rfl, _, _, _, _, rfl, rfl, .inl (.inl ht), rfl, q⟩
      · rw [decide_eq_false (fun z => h2 (V.str.inj z))]
        rw [if_neg h2] at q
        exact iteF ⟨_, rfl, q⟩
    · rw [decide_eq_false (fun z => h1 (V.str.inj z))]
      rw [if_neg h1] at q
      refine iteF ⟨_, rfl, d, _, rfl, hf.each, rfl, _, rfl, ?_⟩
      by_cases h2 : b.each = "now"
      · rw [decide_eq_true (show V.str b.each = V.str (Str.ofString "now") from congrArg V.str h2)]
        rw [if_pos h2] at q
        exact iteT ⟨_, rfl, q⟩
      · rw [decide_eq_false (fun z => h2 (V.str.inj z))]
        rw [if_neg h2] at q
        exact iteF q
end

end HL

namespace HL
open PySem PySem.Spec PyProof.Rows L2


section
variable {P : Program} {w : World} {K : PySem.W.Frag} {mg : Str → Option Value} {base : Heap}
def ways2' : List Str := ["held", "each"]
theorem ways_mem {y : Str} : y ∈ ways2' ↔ y ∈ ways2 := by
  simp only [ways2, ways2', List.mem_cons, List.not_mem_nil, or_false]
  exact Or.comm
def spLet : Sp := fun vs H Q _ => ∃ (d p : Addr) (b : Bk) (k l : Int), vs = [.ref d, .int k, .int l] ∧ FAt H d p b ∧ b.Ok ∧ 1 ≤ k ∧ k ≤ 3 ∧
  ∀ (r : Addr) (prs : List (Str × Int)) (H' : Hp), Same H H' → H r = none → PrsAt H' r prs → prs.length ≤ 20 → (∀ y x, (y, x) ∈ prs ↔ (y ∈ ways2 ∧ -1 ≤ x ∧ x ≤ k ∧ ¬ Barred b l y x)) → Q (.ref r) H'
theorem has_let (T : Tx K mg) : Has P w K mg base "_law_wants_let" 2 ["_law_fields", "_law_deep", "_law_life"] spLet := by
  have h_law_bar : Has P w K mg base "_law_bar" 1 ["_law_life", "_law_way", "_law_wanted"] spLBar := has_lbar T
  refine has_of (k := 1) (g_law_wants_let T) (d_law_wants_let T) sc_law_wants_let (fun _ _ _ _ _ _ us hl => match us, hl with | [_, _, _], _ => rfl) (fun vs H Q E h => ?_) (fun cdv A outer s H vs Q E hr h => ?_)
  · obtain ⟨d, p, b, k, l, rfl, _⟩ := h
    rfl
  · obtain ⟨d, p, b, k, l, rfl, hf, ok, k1, k3, q⟩ := h
    have hu := hu_of hr
    refine ⟨_, (pss_cons (ps_set (i := 3) sc_law_wants_let.nd rfl (Or.inl rfl) (pe_lst pa_nil)) (pss_cons (ps_for PassesOwn.never rfl (pi_list (pe_lst (pa_cons pe_str (pa_cons pe_str pa_nil)))) (pg_name (i := 4) sc_law_wants_let.nd rfl (Or.inl rfl)) (pss_one (ps_for PassesOwn.never rfl (pi_range2 (by rfl) (m_range T) (pa_cons (pe_un un_neg pe_int) (pa_cons (pe_op op_add (pv 1) pe_int) pa_nil))) (pg_name (i := 5) sc_law_wants_let.nd rfl (Or.inl rfl)) (pss_one (ps_if (pt_cmpR op_notIn_seq (pe_has h_law_bar (hr.mono (by decide)) rfl (pa_cons (pv 2) (pa_cons (pv 4) (pa_cons (pv 5) pa_nil)))) (pe_dget hu (pv 0) pe_str (fun _ _ => rfl)) rfl) (pss_one (ps_expr (pe_bm PySem.F.plainAttrs_list PySem.F.slot_list_append PySem.F.type_list_append mt_append (pv 3) (pa_cons (pe_tup (pa_cons (pv 4) (pa_cons (pv 5) pa_nil))) pa_nil)))) pss_nil))))) (pss_one (ps_ret (pv 3))))), ?_⟩
    refine ⟨by decide, fun F qF => ?_⟩
    generalize e1 : upd _ _ _ = H1; have s1 := new_s e1 qF; have f1 := new_f e1
    refine ⟨by decide, fun l2 q2 => ?_⟩
    generalize e2 : upd _ _ _ = H2; have s2 := new_s e2 q2; have f2 := new_f e2
    have nl : l2 ≠ F := (ne_of_none f1 q2).symm
    have dF : d ≠ F := ne_of_none hf.1 qF
    have pF : p ≠ F := ne_of_none hf.2 qF
    refine ⟨l2, rfl, ⟨_, SqL.of f2⟩, for_list (K := K) (a := l2) (xs := [.str "held", .str "each"]) (fun i σ H' => ∃ (o4 o5 : Option V) (prs : List (Str × Int)), σ = [some (.ref d), some (.int k), some (.int l), some (.ref F), o4, o5] ∧ PrsAt H' F prs ∧ prs.length ≤ 5 * i ∧ SmD F H2 H' ∧
      (∀ y x, (y, x) ∈ prs ↔ (y ∈ ways2'.take i ∧ -1 ≤ x ∧ x ≤ k ∧ ¬ Barred b l y x))) ⟨_, _, [], rfl, .nil (s2 _ _ f1), by decide, fun _ _ _ e => e, fun y x => by simp⟩ ?_ ?_ ?_⟩
    · rintro i σ H' _ ⟨_, _, _, _, _, _, sm, _⟩
      exact SqL.of (sm _ _ nl f2)
    · rintro i x σ H3 hx ⟨o4, o5, prs, rfl, pa, hlen, sm, mem⟩
      obtain ⟨y, hy, ey⟩ : ∃ y : Str, ways2'[i]? = some y ∧ x = .str y := by
        match i, hx with
        | 0, hx => cases hx; exact ⟨_, rfl, rfl⟩
        | 1, hx => cases hx; exact ⟨_, rfl, rfl⟩
        | i + 2, hx => simp at hx
      subst ey
      have hyw : y ∈ ways2 := ways_mem.mp (List.mem_of_getElem? hy)
      refine ⟨_, rfl, _, rfl, _, _, rfl, rfl, -1, k + 1, rfl, ⟨by decide, by decide, by omega, by omega⟩, ?_⟩
      rw [show (k + 1 - -1).toNat = (k + 2).toNat from congrArg Int.toNat (by omega)]
      refine for_range (fun j σ H' => ∃ (o5 : Option V) (prs : List (Str × Int)), σ = [some (.ref d), some (.int k), some (.int l), some (.ref F), some (.str y), o5] ∧ PrsAt H' F prs ∧ prs.length ≤ 5 * i + j ∧ SmD F H2 H' ∧
        (∀ u x, (u, x) ∈ prs ↔ ((u ∈ ways2'.take i ∧ -1 ≤ x ∧ x ≤ k ∧ ¬ Barred b l u x) ∨ (u = y ∧ -1 ≤ x ∧ x < -1 + (j : Nat) ∧ ¬ Barred b l u x)))) ⟨_, prs, rfl, pa, by omega, sm, fun u x => ?_⟩ ?_ ?_
      · rw [mem]
        exact ⟨fun h => .inl h, fun h => h.elim id fun h => absurd h.2.2.1 (by have := h.2.1; omega)⟩
      · rintro j σ H4 hj ⟨o5, prs, rfl, pa, hlen, sm, mem⟩
        have hf4 : FAt H4 d p b := ⟨sm _ _ dF (s2 _ _ (s1 _ _ hf.1)), sm _ _ pF (s2 _ _ (s1 _ _ hf.2))⟩
        refine ⟨_, rfl, _, rfl, _, rfl, l, y, _, rfl, hyw, _, rfl, d, _, rfl, hf4.bars, p, _, rfl, .inl (SqL.of hf4.2), rfl, flat_strs _, _, rfl, ?_⟩
        show if (!inV (.str (lbar l y (-1 + (j : Nat)))) (b.bars.map V.str)) = true then _ else _
        rw [inV_strs]
        by_cases hb : lbar l y (-1 + (j : Nat)) ∈ b.bars
        · rw [decide_eq_true hb]
          have hB := (lbar_iff ok).mp hb
          refine iteF ⟨_, prs, rfl, pa, by omega, sm, fun u x => (mem u x).trans (or_congr Iff.rfl ⟨fun h => ⟨h.1, h.2.1, by omega, h.2.2.2⟩, fun h => ⟨h.1, h.2.1, ?_, h.2.2.2⟩⟩)⟩
          by_cases e : x = -1 + (j : Nat)
          · rw [e, h.1] at h
            exact absurd hB h.2.2.2
          · have := h.2.2.1
            omega
        · rw [decide_eq_false hb]
          have hB : ¬ Barred b l y (-1 + (j : Nat)) := fun z => hb ((lbar_iff ok).mpr z)
          obtain ⟨ts, hts, pts⟩ := id pa
          refine iteT ⟨_, rfl, .inl ⟨rfl, _, SqL.of hts⟩, _, rfl, _, rfl, by show 2 ≤ sizeLine; decide, fun t5 q5 => ?_⟩
          generalize e5 : upd _ _ _ = H5; have s5 := new_s e5 q5; have f5 := new_f e5
          obtain ⟨acc, g1, g2, g3⟩ := pa.push (pr := (y, (-1 : Int) + (j : Nat))) s5 f5
          have hi2 : i < 2 := (List.getElem?_eq_some_iff.mp hy).1
          refine ⟨F, acc, _, rfl, rfl, g1, by rw [g2]; exact Nat.lt_of_le_of_lt (by omega : _ ≤ 20) (by decide), ?_⟩
          refine ⟨_, prs ++ [(y, (-1 : Int) + (j : Nat))], rfl, g3, by rw [List.length_append, List.length_singleton]; omega, fun c o nc e => by rw [upd_ne nc]; exact s5 _ _ (sm c o nc e), fun u x => ?_⟩
          rw [List.mem_append, mem, List.mem_singleton, Prod.mk.injEq, or_assoc]
          refine or_congr Iff.rfl ⟨fun h => ?_, fun h => ?_⟩
          · rcases h with h | ⟨rfl, rfl⟩
            · exact ⟨h.1, h.2.1, by omega, h.2.2.2⟩
            · exact ⟨rfl, by omega, by omega, hB⟩
          · by_cases e : x = -1 + (j : Nat)
            · exact .inr ⟨h.1, e⟩
            · exact .inl ⟨h.1, h.2.1, by omega, h.2.2.2⟩
      · rintro σ H4 ⟨o5, prs, rfl, pa, hlen, sm, mem⟩
        refine ⟨_, _, prs, rfl, pa, by omega, sm, fun u x => (mem u x).trans ?_⟩
        rw [take_succ' hy, List.mem_append, List.mem_singleton]
        constructor
        · rintro (h | h)
          · exact ⟨.inl h.1, h.2⟩
          · exact ⟨.inr h.1, h.2.1, by omega, h.2.2.2⟩
        · rintro ⟨h | h, h2⟩
          · exact .inl ⟨h, h2⟩
          · exact .inr ⟨h, h2.1, by omega, h2.2.2⟩
    · rintro σ H3 ⟨o4, o5, prs, rfl, pa, hlen, sm, mem⟩
      refine ⟨_, rfl, q F prs H3 (fun c o e => sm c o (ne_of_none e qF) (s2 _ _ (s1 _ _ e))) qF pa (by have : prs.length ≤ 10 := hlen; omega) fun y x => (mem y x).trans ?_⟩
      rw [show ways2'.take [V.str (Str.ofString "held"), V.str (Str.ofString "each")].length = ways2' from rfl, ways_mem]
end

end HL

namespace HL
open PySem PySem.Spec PyProof.Rows L2


section
variable {P : Program} {w : World} {K : PySem.W.Frag} {mg : Str → Option Value} {base : Heap}
def spLackL : Sp := fun vs H Q _ => ∃ (d p t : Addr) (b : Bk) (k : Int) (s : Sd), vs = [.ref d, .int k, .ref t] ∧ FAt H d p b ∧ b.Ok ∧ 1 ≤ k ∧ k ≤ 3 ∧ H t = some (.tup s.vs) ∧
  ∀ (β : Bool) (H' : Hp), Same H H' → (β = true ↔ Lack b k s) → Q (.bl β) H'
theorem has_lackL (T : Tx K mg) : Has P w K mg base "_law_lacked" 3 ["_law_fields", "_law_deep", "_law_own"] spLackL := by
  have h_law_wants_let : Has P w K mg base "_law_wants_let" 2 ["_law_fields", "_law_deep", "_law_life"] spLet := has_let T
  have h_law_level_asked : Has P w K mg base "_law_level_asked" 1 ["_law_fields", "_law_deep", "_law_own", "_law_way"] spAskedL := has_askedL T
  refine has_of (k := 2) (g_law_lacked T) (d_law_lacked T) sc_law_lacked (fun _ _ _ _ _ _ us hl => match us, hl with | [_, _, _], _ => rfl) (fun vs H Q E h => ?_) (fun cdv A outer s H vs Q E hr h => ?_)
  · obtain ⟨d, p, t, b, k, s, rfl, _⟩ := h
    rfl
  · obtain ⟨d, p, t, b, k, s, rfl, hf, ok, k1, k3, ht, q⟩ := h
    have hu := hu_of hr
    refine ⟨_, (pss_cons (ps_set (i := 3) sc_law_lacked.nd rfl (Or.inl rfl) pe_bl) (pss_cons (ps_for PassesOwn.never rfl (pi_list (pe_has h_law_wants_let (hr.mono (by decide)) rfl (pa_cons (pv 0) (pa_cons (pv 1) (pa_cons (pe_ix ix_tup (pv 2) pe_int (fun _ _ => rfl)) pa_nil))))) (pg_tup (by rfl) (pgs_cons (pg_name (i := 4) sc_law_lacked.nd rfl (Or.inl rfl)) (pgs_cons (pg_name (i := 5) sc_law_lacked.nd rfl (Or.inl rfl)) pgs_nil))) (pss_one (ps_if (pt_cmpR op_gt (pv 5) (pe_has h_law_level_asked (hr.mono (by decide)) rfl (pa_cons (pv 0) (pa_cons (pv 1) (pa_cons (pv 2) (pa_cons (pv 4) pa_nil))))) (nomark _)) (pss_one (ps_set (i := 3) sc_law_lacked.nd rfl (Or.inl rfl) pe_bl)) pss_nil))) (pss_one (ps_ret (pe_and (pv 3) (pe_one (pe_cmpR op_eq (pe_dget hu (pv 0) pe_str (fun _ _ => rfl)) pe_str (nomark _)))))))), ?_⟩
    refine ⟨_, rfl, _, rfl, _, rfl, _, _, _, _, rfl, rfl, .inl (.inl ht), rfl, d, p, b, k, s.life, rfl, hf, ok, k1, k3, fun r prs H1 s1 qr pa hlen mem => ?_⟩
    obtain ⟨ts, hts, pts⟩ := id pa
    refine ⟨r, rfl, ⟨_, SqL.of hts⟩, for_list (K := K) (a := r) (xs := ts.map V.ref) (fun i σ H' => H' = H1 ∧ ∃ (o4 o5 : Option V) (β : Bool), σ = [some (.ref d), some (.int k), some (.ref t), some (.bl β), o4, o5] ∧ (β = true ↔ ∃ pr ∈ prs.take i, asked b k s pr.1 < pr.2)) ⟨rfl, _, _, false, rfl, by simp⟩ ?_ ?_ ?_⟩
    · rintro i σ H' _ ⟨rfl, _⟩
      exact SqL.of hts
    · rintro i x σ H2 hx ⟨rfl, o4, o5, β, rfl, iff2⟩
      obtain ⟨t', ht', rfl⟩ : ∃ t', ts[i]? = some t' ∧ x = .ref t' := by
        rw [List.getElem?_map] at hx
        cases e : ts[i]? with
        | none => rw [e] at hx; cases hx
        | some t => rw [e] at hx; cases hx; exact ⟨t, rfl, rfl⟩
      obtain ⟨⟨y, x⟩, hpr, etup⟩ := L2.paired_get pts ht'
      have ht1 := take_succ' hpr
      refine ⟨t', _, rfl, .inl (.inl etup), rfl, _, _, rfl, _, _, rfl, rfl, ?_⟩
      refine ⟨_, rfl, _, rfl, _, rfl, _, rfl, _, rfl, d, p, t, b, k, s, y, rfl, hf.kp (Kp.of s1), s1 _ _ ht, _, _, rfl, rfl, _, rfl, ?_⟩
      cases ec : decide (asked b k s y < x) with
      | true =>
        have hc := of_decide_eq_true ec
        refine iteT ⟨rfl, _, _, true, rfl, ?_⟩
        rw [ht1]
        exact ⟨fun _ => ⟨(y, x), by simp, hc⟩, fun _ => rfl⟩
      | false =>
        have hc := of_decide_eq_false ec
        refine iteF ⟨rfl, _, _, β, rfl, ?_⟩
        rw [ht1, iff2]
        constructor
        · rintro ⟨pr, m, h⟩
          exact ⟨pr, List.mem_append_left _ m, h⟩
        · rintro ⟨pr, m, h⟩
          rcases List.mem_append.mp m with m | m
          · exact ⟨pr, m, h⟩
          · rw [List.mem_singleton.mp m] at h
            exact absurd h hc
    · rintro σ H2 ⟨rfl, o4, o5, β, rfl, iff2⟩
      rw [List.length_map, pts.length, List.take_length] at iff2
      have iff3 : β = true ↔ ∃ (y : Str) (x : Int), y ∈ ways2 ∧ -1 ≤ x ∧ x ≤ k ∧ ¬ Barred b s.life y x ∧ asked b k s y < x := by
        rw [iff2]
        constructor
        · rintro ⟨⟨y, x⟩, m, h⟩
          have := (mem y x).mp m
          exact ⟨y, x, this.1, this.2.1, this.2.2.1, this.2.2.2, h⟩
        · rintro ⟨y, x, h1, h2, h3, h4, h5⟩
          exact ⟨(y, x), (mem y x).mpr ⟨h1, h2, h3, h4⟩, h5⟩
      refine ⟨_, rfl, β, rfl, ?_⟩
      cases β with
      | false => exact iteF (q false H2 s1 ⟨fun e => (by cases e), fun e => iff3.mpr e.2⟩)
      | true =>
        refine iteT ⟨_, rfl, d, _, rfl, (hf.kp (Kp.of s1)).lifted, rfl, ?_⟩
        exact q _ H2 s1 ⟨fun e => ⟨V.str.inj (of_decide_eq_true e), iff3.mp rfl⟩, fun e => decide_eq_true (congrArg V.str e.1)⟩
end

end HL

namespace HL
open PySem PySem.Spec PyProof.Rows L2


section
variable {P : Program} {w : World} {K : PySem.W.Frag} {mg : Str → Option Value} {base : Heap}
def spBadL : Sp := fun vs H Q _ => ∃ (d p t : Addr) (b : Bk) (k : Int) (z : Str) (s : Sd), vs = [.ref d, .int k, .str z, .ref t] ∧ FAt H d p b ∧ b.Ok ∧ 1 ≤ k ∧ k ≤ 3 ∧ H t = some (.tup s.vs) ∧ s.Form k ∧
  ∀ (β : Bool) (H' : Hp), Same H H' → (β = true ↔ Bad b k z s) → Q (.bl β) H'
theorem has_badL (T : Tx K mg) : Has P w K mg base "_law_bad" 4 ["_law_fields", "_law_deep", "_law_word", "_law_own"] spBadL := by
  have h_law_lacked : Has P w K mg base "_law_lacked" 3 ["_law_fields", "_law_deep", "_law_own"] spLackL := has_lackL T
  refine has_of (k := 3) (g_law_bad T) (d_law_bad T) sc_law_bad (fun _ _ _ _ _ _ us hl => match us, hl with | [_, _, _, _], _ => rfl) (fun vs H Q E h => ?_) (fun cdv A outer s H vs Q E hr h => ?_)
  · obtain ⟨d, p, t, b, k, z, s, rfl, _⟩ := h
    rfl
  · obtain ⟨d, p, t, b, k, z, s, rfl, hf, ok, k1, k3, ht, fm, q⟩ := h
    have hu := hu_of hr
    refine ⟨_, (pss_cons (ps_asg (pv 3) (pg_tup (by rfl) (pgs_cons (pg_name (i := 4) sc_law_bad.nd rfl (Or.inl rfl)) (pgs_cons (pg_name (i := 5) sc_law_bad.nd rfl (Or.inl rfl)) (pgs_cons (pg_name (i := 6) sc_law_bad.nd rfl (Or.inl rfl)) (pgs_cons (pg_name (i := 7) sc_law_bad.nd rfl (Or.inl rfl)) (pgs_cons (pg_name (i := 8) sc_law_bad.nd rfl (Or.inl rfl)) (pgs_cons (pg_name (i := 9) sc_law_bad.nd rfl (Or.inl rfl)) pgs_nil)))))))) (pss_cons (ps_set (i := 10) sc_law_bad.nd rfl (Or.inl rfl) (pe_and (pe_cmpR op_eq (pv 6) pe_str (nomark _)) (pe_one (pe_cmpR op_gt (pv 5) (pv 7) (nomark _))))) (pss_cons (ps_if (pt_cmpR op_eq (pv 2) pe_str (nomark _)) (pss_one (ps_ret (pe_and (pv 10) (pe_and (pv 8) (pe_one (pe_or (pe_cmpR op_ge (pv 4) pe_int (nomark _)) (pe_one (pe_cmpR op_eq (pe_dget hu (pv 0) pe_str (fun _ _ => rfl)) pe_str (nomark _))))))))) pss_nil) (pss_cons (ps_if (pt_cmpR op_eq (pv 2) pe_str (nomark _)) (pss_one (ps_ret (pe_and (pe_cmpR op_ge (pv 4) pe_int (nomark _)) (pe_one (pe_or (pe_cmpR op_lt (pv 5) (pv 4) (nomark _)) (pe_one (pv 10))))))) pss_nil) (pss_cons (ps_if (pt_cmpR op_eq (pv 2) pe_str (nomark _)) (pss_one (ps_ret (pe_has h_law_lacked (hr.mono (by decide)) rfl (pa_cons (pv 0) (pa_cons (pv 1) (pa_cons (pv 3) pa_nil)))))) pss_nil) (pss_cons (ps_set (i := 11) sc_law_bad.nd rfl (Or.inl rfl) (pe_or (pe_cmpR op_eq (pe_dget hu (pv 0) pe_str (fun _ _ => rfl)) pe_str (nomark _)) (pe_one (pe_and (pe_cmpR op_eq (pe_dget hu (pv 0) pe_str (fun _ _ => rfl)) pe_str (nomark _)) (pe_one (pe_cmpR op_eq (pv 5) pe_int (nomark _))))))) (pss_one (ps_ret (pe_and (pe_cmpR op_eq (pv 4) (pe_un un_neg pe_int) (nomark _)) (pe_and (pe_not (pv 9)) (pe_one (pv 11)))))))))))), ?_⟩
    unfold Bad at q
    have l0 := fm.l0
    have v1 := fm.v1
    have pos : s.life ≠ -1 ↔ 0 ≤ s.life := ⟨fun h => by omega, fun h => by omega⟩
    refine ⟨_, rfl, t, _, rfl, .inl (.inl ht), rfl, _, _, rfl, _, _, rfl, _, _, rfl, _, _, rfl, _, _, rfl, _, _, rfl, rfl, ?_⟩
    refine ⟨_, rfl, rfl, _, rfl, ?_⟩
    by_cases h0 : s.made = "other"
    · rw [decide_eq_true (show V.str s.made = V.str (Str.ofString "other") from congrArg V.str h0)]
      refine iteT ⟨_, rfl, _, rfl, _, _, rfl, rfl, ?_⟩
      have far : decide (s.common < s.level) = true ↔ Far s := ⟨fun e => ⟨h0, of_decide_eq_true e⟩, fun e => decide_eq_true e.2⟩
      obtain ⟨β, hβ⟩ : ∃ β, decide (s.common < s.level) = β := ⟨_, rfl⟩
      rw [hβ] at far
      refine ⟨_, rfl, rfl, _, rfl, ?_⟩
      by_cases h1 : z = "ended"
      · rw [decide_eq_true (show V.str z = V.str (Str.ofString "ended") from congrArg V.str h1)]
        rw [if_pos h1] at q
        refine iteT ⟨_, rfl, β, congrArg V.bl hβ, ?_⟩
        cases β with
        | false => exact iteF (q false H (Same.refl _) ⟨fun e => (by cases e), fun e => far.mpr e.1⟩)
        | true =>
          refine iteT ⟨_, rfl, s.past, rfl, ?_⟩
          cases g2 : s.past with
          | false => exact iteF (q false H (Same.refl _) ⟨fun e => (by cases e), fun e => (by rw [g2] at e; exact e.2.1)⟩)
          | true =>
            refine iteT ⟨_, rfl, _, _, rfl, rfl, _, rfl, ?_⟩
            by_cases g3 : 0 ≤ s.life
            · rw [decide_eq_true g3]
              exact iteT (q true H (Same.refl _) ⟨fun _ => ⟨far.mp rfl, g2, .inl (pos.mpr g3)⟩, fun _ => rfl⟩)
            · rw [decide_eq_false g3]
              refine iteF ⟨_, rfl, d, _, rfl, hf.ends, rfl, ?_⟩
              exact q _ H (Same.refl _) ⟨fun e => ⟨far.mp rfl, g2, .inr (V.str.inj (of_decide_eq_true e))⟩, fun e => decide_eq_true (congrArg V.str (e.2.2.resolve_left fun x => g3 (pos.mp x)))⟩
      · rw [decide_eq_false (fun e => h1 (V.str.inj e))]
        rw [if_neg h1] at q
        refine iteF ⟨_, rfl, rfl, _, rfl, ?_⟩
        by_cases h2 : z = "strayed"
        · rw [decide_eq_true (show V.str z = V.str (Str.ofString "strayed") from congrArg V.str h2)]
          rw [if_pos h2] at q
          refine iteT ⟨_, rfl, _, _, rfl, rfl, _, rfl, ?_⟩
          by_cases g3 : 0 ≤ s.life
          · rw [decide_eq_true g3]
            have hne : s.life ≠ -1 := pos.mpr g3
            rw [if_neg hne] at v1
            refine iteT ⟨_, rfl, _, rfl, _, _, rfl, rfl, _, rfl, ?_⟩
            by_cases g4 : s.level < s.life
            · rw [decide_eq_true g4]
              exact iteT (q true H (Same.refl _) ⟨fun _ => ⟨hne, .inl (by omega)⟩, fun _ => rfl⟩)
            · rw [decide_eq_false g4]
              refine iteF ⟨_, rfl, ?_⟩
              exact (congrArg (fun v => Q v H) (congrArg V.bl hβ)).mpr (q β H (Same.refl _) ⟨fun e => ⟨hne, .inr (far.mp e)⟩, fun e => far.mpr (e.2.resolve_left fun x => x (by omega))⟩)
          · rw [decide_eq_false g3]
            exact iteF (q false H (Same.refl _) ⟨fun e => (by cases e), fun e => absurd (pos.mp e.1) g3⟩)
        · rw [decide_eq_false (fun e => h2 (V.str.inj e))]
          rw [if_neg h2] at q
          refine iteF ⟨_, rfl, rfl, _, rfl, ?_⟩
          by_cases h3 : z = "missing"
          · rw [decide_eq_true (show V.str z = V.str (Str.ofString "missing") from congrArg V.str h3)]
            rw [if_pos h3] at q
            exact iteT ⟨_, rfl, _, rfl, _, rfl, d, p, t, b, k, s, rfl, hf, ok, k1, k3, ht, q⟩
          · rw [decide_eq_false (fun e => h3 (V.str.inj e))]
            rw [if_neg h3] at q
            refine iteF ⟨_, rfl, d, _, rfl, hf.ends, rfl, _, rfl, ?_⟩
            by_cases g5 : b.ends = "never"
            · rw [decide_eq_true (show V.str b.ends = V.str (Str.ofString "never") from congrArg V.str g5)]
              refine iteT ⟨_, rfl, _, rfl, rfl, _, rfl, ?_⟩
              by_cases g3 : s.life = -1
              · rw [decide_eq_true (show V.int s.life = V.int (-1) from congrArg V.int g3)]
                refine iteT ⟨_, rfl, s.rooted, rfl, _, rfl, ?_⟩
                cases g4 : s.rooted with
                | true => exact iteF (q false H (Same.refl _) ⟨fun e => (by cases e), fun e => (by rw [g4] at e; exact e.2.1.symm)⟩)
                | false => exact iteT ⟨_, rfl, q true H (Same.refl _) ⟨fun _ => ⟨g3, g4, .inl g5⟩, fun _ => rfl⟩⟩
              · rw [decide_eq_false (fun e => g3 (V.int.inj e))]
                exact iteF (q false H (Same.refl _) ⟨fun e => (by cases e), fun e => absurd e.1 g3⟩)
            · rw [decide_eq_false (fun e => g5 (V.str.inj e))]
              refine iteF ⟨_, rfl, d, _, rfl, hf.ends, rfl, _, rfl, ?_⟩
              by_cases g6 : b.ends = "scope"
              · rw [decide_eq_true (show V.str b.ends = V.str (Str.ofString "scope") from congrArg V.str g6)]
                refine iteT ⟨_, rfl, rfl, ?_⟩
                refine ⟨_, rfl, _, rfl, rfl, _, rfl, ?_⟩
                by_cases g3 : s.life = -1
                · rw [decide_eq_true (show V.int s.life = V.int (-1) from congrArg V.int g3)]
                  refine iteT ⟨_, rfl, s.rooted, rfl, _, rfl, ?_⟩
                  cases g4 : s.rooted with
                  | true => exact iteF (q false H (Same.refl _) ⟨fun e => (by cases e), fun e => (by rw [g4] at e; exact e.2.1.symm)⟩)
                  | false => exact iteT ⟨_, rfl, q _ H (Same.refl _) ⟨fun e => ⟨g3, g4, .inr ⟨g6, V.int.inj (of_decide_eq_true e)⟩⟩, fun e => decide_eq_true (congrArg V.int (e.2.2.resolve_left fun x => g5 x).2)⟩⟩
                · rw [decide_eq_false (fun e => g3 (V.int.inj e))]
                  exact iteF (q false H (Same.refl _) ⟨fun e => (by cases e), fun e => absurd e.1 g3⟩)
              · rw [decide_eq_false (fun e => g6 (V.str.inj e))]
                refine iteF ⟨_, rfl, _, rfl, rfl, _, rfl, ?_⟩
                by_cases g3 : s.life = -1
                · rw [decide_eq_true (show V.int s.life = V.int (-1) from congrArg V.int g3)]
                  refine iteT ⟨_, rfl, s.rooted, rfl, _, rfl, ?_⟩
                  cases g4 : s.rooted with
                  | true => exact iteF (q false H (Same.refl _) ⟨fun e => (by cases e), fun e => (by rw [g4] at e; exact e.2.1.symm)⟩)
                  | false => exact iteT ⟨_, rfl, q false H (Same.refl _) ⟨fun e => (by cases e), fun e => absurd (e.2.2.resolve_left fun x => g5 x).1 g6⟩⟩
                · rw [decide_eq_false (fun e => g3 (V.int.inj e))]
                  exact iteF (q false H (Same.refl _) ⟨fun e => (by cases e), fun e => absurd e.1 g3⟩)
    · rw [decide_eq_false (fun e => h0 (V.str.inj e))]
      refine iteF ?_
      have far : false = true ↔ Far s := ⟨fun e => (by cases e), fun e => absurd e.1 h0⟩
      obtain ⟨β, hβ⟩ : ∃ β, false = β := ⟨_, rfl⟩
      rw [hβ] at far
      refine ⟨_, rfl, rfl, _, rfl, ?_⟩
      by_cases h1 : z = "ended"
      · rw [decide_eq_true (show V.str z = V.str (Str.ofString "ended") from congrArg V.str h1)]
        rw [if_pos h1] at q
        refine iteT ⟨_, rfl, β, congrArg V.bl hβ, ?_⟩
        cases β with
        | false => exact iteF (q false H (Same.refl _) ⟨fun e => (by cases e), fun e => far.mpr e.1⟩)
        | true =>
          refine iteT ⟨_, rfl, s.past, rfl, ?_⟩
          cases g2 : s.past with
          | false => exact iteF (q false H (Same.refl _) ⟨fun e => (by cases e), fun e => (by rw [g2] at e; exact e.2.1)⟩)
          | true =>
            refine iteT ⟨_, rfl, _, _, rfl, rfl, _, rfl, ?_⟩
            by_cases g3 : 0 ≤ s.life
            · rw [decide_eq_true g3]
              exact iteT (q true H (Same.refl _) ⟨fun _ => ⟨far.mp rfl, g2, .inl (pos.mpr g3)⟩, fun _ => rfl⟩)
            · rw [decide_eq_false g3]
              refine iteF ⟨_, rfl, d, _, rfl, hf.ends, rfl, ?_⟩
              exact q _ H (Same.refl _) ⟨fun e => ⟨far.mp rfl, g2, .inr (V.str.inj (of_decide_eq_true e))⟩, fun e => decide_eq_true (congrArg V.str (e.2.2.resolve_left fun x => g3 (pos.mp x)))⟩
      · rw [decide_eq_false (fun e => h1 (V.str.inj e))]
        rw [if_neg h1] at q
        refine iteF ⟨_, rfl, rfl, _, rfl, ?_⟩
        by_cases h2 : z = "strayed"
        · rw [decide_eq_true (show V.str z = V.str (Str.ofString "strayed") from congrArg V.str h2)]
          rw [if_pos h2] at q
          refine iteT ⟨_, rfl, _, _, rfl, rfl, _, rfl, ?_⟩
          by_cases g3 : 0 ≤ s.life
          · rw [decide_eq_true g3]
            have hne : s.life ≠ -1 := pos.mpr g3
            rw [if_neg hne] at v1
            refine iteT ⟨_, rfl, _, rfl, _, _, rfl, rfl, _, rfl, ?_⟩
            by_cases g4 : s.level < s.life
            · rw [decide_eq_true g4]
              exact iteT (q true H (Same.refl _) ⟨fun _ => ⟨hne, .inl (by omega)⟩, fun _ => rfl⟩)
            · rw [decide_eq_false g4]
              refine iteF ⟨_, rfl, ?_⟩
              exact (congrArg (fun v => Q v H) (congrArg V.bl hβ)).mpr (q β H (Same.refl _) ⟨fun e => ⟨hne, .inr (far.mp e)⟩, fun e => far.mpr (e.2.resolve_left fun x => x (by omega))⟩)
          · rw [decide_eq_false g3]
            exact iteF (q false H (Same.refl _) ⟨fun e => (by cases e), fun e => absurd (pos.mp e.1) g3⟩)
        · rw [decide_eq_false (fun e => h2 (V.str.inj e))]
          rw [if_neg h2] at q
          refine iteF ⟨_, rfl, rfl, _, rfl, ?_⟩
          by_cases h3 : z = "missing"
          · rw [decide_eq_true (show V.str z = V.str (Str.ofString "missing") from congrArg V.str h3)]
            rw [if_pos h3] at q
            exact iteT ⟨_, rfl, _, rfl, _, rfl, d, p, t, b, k, s, rfl, hf, ok, k1, k3, ht, q⟩
          · rw [decide_eq_false (fun e => h3 (V.str.inj e))]
            rw [if_neg h3] at q
            refine iteF ⟨_, rfl, d, _, rfl, hf.ends, rfl, _, rfl, ?_⟩
            by_cases g5 : b.ends = "never"
            · rw [decide_eq_true (show V.str b.ends = V.str (Str.ofString "never") from congrArg V.str g5)]
              refine iteT ⟨_, rfl, _, rfl, rfl, _, rfl, ?_⟩
              by_cases g3 : s.life = -1
              · rw [decide_eq_true (show V.int s.life = V.int (-1) from congrArg V.int g3)]
                refine iteT ⟨_, rfl, s.rooted, rfl, _, rfl, ?_⟩
                cases g4 : s.rooted with
                | true => exact iteF (q false H (Same.refl _) ⟨fun e => (by cases e), fun e => (by rw [g4] at e; exact e.2.1.symm)⟩)
                | false => exact iteT ⟨_, rfl, q true H (Same.refl _) ⟨fun _ => ⟨g3, g4, .inl g5⟩, fun _ => rfl⟩⟩
              · rw [decide_eq_false (fun e => g3 (V.int.inj e))]
                exact iteF (q false H (Same.refl _) ⟨fun e => (by cases e), fun e => absurd e.1 g3⟩)
            · rw [decide_eq_false (fun e => g5 (V.str.inj e))]
              refine iteF ⟨_, rfl, d, _, rfl, hf.ends, rfl, _, rfl, ?_⟩
              by_cases g6 : b.ends = "scope"
              · rw [decide_eq_true (show V.str b.ends = V.str (Str.ofString "scope") from congrArg V.str g6)]
                refine iteT ⟨_, rfl, rfl, ?_⟩
                refine ⟨_, rfl, _, rfl, rfl, _, rfl, ?_⟩
                by_cases g3 : s.life = -1
                · rw [decide_eq_true (show V.int s.life = V.int (-1) from congrArg V.int g3)]
                  refine iteT ⟨_, rfl, s.rooted, rfl, _, rfl, ?_⟩
                  cases g4 : s.rooted with
                  | true => exact iteF (q false H (Same.refl _) ⟨fun e => (by cases e), fun e => (by rw [g4] at e; exact e.2.1.symm)⟩)
                  | false => exact iteT ⟨_, rfl, q _ H (Same.refl _) ⟨fun e => ⟨g3, g4, .inr ⟨g6, V.int.inj (of_decide_eq_true e)⟩⟩, fun e => decide_eq_true (congrArg V.int (e.2.2.resolve_left fun x => g5 x).2)⟩⟩
                · rw [decide_eq_false (fun e => g3 (V.int.inj e))]
                  exact iteF (q false H (Same.refl _) ⟨fun e => (by cases e), fun e => absurd e.1 g3⟩)
              · rw [decide_eq_false (fun e => g6 (V.str.inj e))]
                refine iteF ⟨_, rfl, _, rfl, rfl, _, rfl, ?_⟩
                by_cases g3 : s.life = -1
                · rw [decide_eq_true (show V.int s.life = V.int (-1) from congrArg V.int g3)]
                  refine iteT ⟨_, rfl, s.rooted, rfl, _, rfl, ?_⟩
                  cases g4 : s.rooted with
                  | true => exact iteF (q false H (Same.refl _) ⟨fun e => (by cases e), fun e => (by rw [g4] at e; exact e.2.1.symm)⟩)
                  | false => exact iteT ⟨_, rfl, q false H (Same.refl _) ⟨fun e => (by cases e), fun e => absurd (e.2.2.resolve_left fun x => g5 x).1 g6⟩⟩
                · rw [decide_eq_false (fun e => g3 (V.int.inj e))]
                  exact iteF (q false H (Same.refl _) ⟨fun e => (by cases e), fun e => absurd e.1 g3⟩)
end

end HL

namespace HL
open PySem PySem.Spec PyProof.Rows L2


section
variable {P : Program} {w : World} {K : PySem.W.Frag} {mg : Str → Option Value} {base : Heap}
theorem SmD.sm {d : Addr} {H H1 H2 : Hp} (a : SmD d H H1) (b : Same H1 H2) : SmD d H H2 := fun x o n e => b x o (a x o n e)
theorem SmD.upd {d D : Addr} {H H1 : Hp} {o : HO} (a : SmD d H H1) (h : H D = none) : SmD d H (upd H1 D o) := fun x u n e => by
  rw [upd_ne (ne_of_none e h)]
  exact a x u n e
theorem smd_none {n : Nat} {d f : Addr} {H H2 : Hp} (sm : SmD d H H2) (dr : Dr P w n H2 d) (h : H2 f = none) : H f = none := by
  have nf := dr.live h
  cases e : H f with
  | none => rfl
  | some o =>
    rw [sm f o nf e] at h
    cases h
/-- a drawn word of a row just laid -/
theorem str_at {zs : List Str} {i : Nat} {v : V} (h : (zs.map V.str)[i]? = some v) : ∃ z, z ∈ zs ∧ v = .str z := by
  obtain ⟨z, hz, e⟩ := List.mem_map.mp (List.mem_of_getElem? h)
  exact ⟨z, hz, e.symm⟩
def spDrawn (P : Program) (w : World) : Sp := fun vs H Q _ => ∃ (n : Nat) (d : Addr), vs = [.ref d] ∧ n + 20 < 1099511627776 ∧ Dr P w n H d ∧
  ∀ (f p : Addr) (b : Bk) (H' : Hp), b.Ok → b.bars = [] → FAt H' f p b → SmD d H H' → Dr P w (n + 5) H' d → H f = none → H p = none → Q (.ref f) H'
theorem has_drawn (T : Tx K mg) : Has P w K mg base "_law_drawn_fields" 4 ["_law_draw"] (spDrawn P w) := by
  have h_law_pick : Has P w K mg base "_law_pick" 3 ["_law_draw", "_law_some"] (spPick P w K) := has_pick T
  refine has_of (k := 3) (g_law_drawn_fields T) (d_law_drawn_fields T) sc_law_drawn_fields (fun _ _ _ _ _ _ us hl => match us, hl with | [_], _ => rfl) (fun vs H Q E h => ?_) (fun cdv A outer s H vs Q E hr h => ?_)
  · obtain ⟨n, d, rfl, _⟩ := h
    rfl
  · obtain ⟨n, d, rfl, hn, dr, k⟩ := h
    have hu := hu_of hr
    refine ⟨_, (pss_cons (ps_set (i := 1) sc_law_drawn_fields.nd rfl (Or.inl rfl) (pe_disp (pps_cons pe_str (pe_has h_law_pick (hr.mono (by decide)) rfl (pa_cons (pv 0) (pa_cons (pe_lst (pa_cons pe_str (pa_cons pe_str (pa_cons pe_str pa_nil)))) pa_nil))) (pps_cons pe_str (pe_has h_law_pick (hr.mono (by decide)) rfl (pa_cons (pv 0) (pa_cons (pe_lst (pa_cons pe_str (pa_cons pe_str (pa_cons pe_str pa_nil)))) pa_nil))) pps_nil)) (by rfl) (by rfl) (fun z => by cases z) (by decide))) (pss_cons (ps_dput hu (pv 1) pe_str (pe_has h_law_pick (hr.mono (by decide)) rfl (pa_cons (pv 0) (pa_cons (pe_lst (pa_cons pe_str (pa_cons pe_str pa_nil))) pa_nil))) rfl) (pss_cons (ps_dput hu (pv 1) pe_str (pe_has h_law_pick (hr.mono (by decide)) rfl (pa_cons (pv 0) (pa_cons (pe_lst (pa_cons pe_str (pa_cons pe_str (pa_cons pe_str (pa_cons pe_str pa_nil))))) pa_nil))) rfl) (pss_cons (ps_dput hu (pv 1) pe_str (pe_has h_law_pick (hr.mono (by decide)) rfl (pa_cons (pv 0) (pa_cons (pe_lst (pa_cons pe_str (pa_cons pe_str (pa_cons pe_str pa_nil)))) pa_nil))) rfl) (pss_cons (ps_dput hu (pv 1) pe_str (pe_lst pa_nil) rfl) (pss_one (ps_ret (pv 1)))))))), ?_⟩
    refine fun f qf => ⟨_, rfl, by decide, fun l1 q1 => ?_⟩
    have hf0 : upd H f (.dK []) f = some (.dK []) := upd_same
    have s0 : Same H (upd H f (.dK [])) := same_new qf
    generalize upd H f (.dK []) = H0 at *
    generalize e1 : upd _ _ _ = H1; have s1 := new_s e1 q1; have f1 := new_f e1
    have dr1 := (dr.same s0).same s1
    refine ⟨n, d, by omega, dr1, .inl ⟨l1, _, rfl, SqL.of f1, by decide, by decide, fun i v H2 hi sm2 dr2 => ?_⟩⟩
    obtain ⟨z1, m1, rfl⟩ := str_at (zs := ["home", "now", "now"]) hi
    refine ⟨_, rfl, by decide, fun l3 q3 => ?_⟩
    generalize e3 : upd _ _ _ = H3; have s3 := new_s e3 q3; have f3 := new_f e3
    have dr3 := dr2.same s3
    refine ⟨n + 1, d, by omega, dr3, .inl ⟨l3, _, rfl, SqL.of f3, by decide, by decide, fun i v H4 hi sm4 dr4 => ?_⟩⟩
    obtain ⟨z2, m2, rfl⟩ := str_at (zs := ["now", "now", "program"]) hi
    have k4 : Kp H0 H4 := (((Kp.of s1).trans (dr1.kp sm2)).trans (Kp.of s3)).trans (dr3.kp sm4)
    have f4 := k4.dK hf0
    refine ⟨f4, [(.inr "held", .str z1), (.inr "each", .str z2)], rfl, by show 2 ≤ 15; decide, ?_⟩
    generalize e5 : upd H4 f _ = H5
    have f5 : H5 f = some (.dK [(.inr "held", .str z1), (.inr "each", .str z2)]) := new_f e5
    have dr5 : Dr P w (n + 2) H5 d := by
      rw [← e5]
      exact dr4.put f4 (fun _ z => by cases z)
    have sm5 : SmD d H H5 := fun c o nc e => by
      rw [← e5, upd_ne (ne_of_none e qf)]
      exact sm4 c o nc (s3 _ _ (sm2 c o nc (s1 _ _ (s0 _ _ e))))
    clear e5
    refine ⟨_, rfl, by decide, fun l6 q6 => ?_⟩
    generalize e6 : upd _ _ _ = H6; have s6 := new_s e6 q6; have f6 := new_f e6
    have dr6 := dr5.same s6
    refine ⟨n + 2, d, by omega, dr6, .inl ⟨l6, _, rfl, SqL.of f6, by decide, by decide, fun i v H7 hi sm7 dr7 => ?_⟩⟩
    obtain ⟨z3, m3, rfl⟩ := str_at (zs := ["nothing", "kept"]) hi
    have f7 := (dr6.kp sm7).dK (s6 _ _ f5)
    refine ⟨_, rfl, f, _, rfl, DPut.k (k := .inr "lifted") f7 (by show 2 < sizeLine; decide), ?_⟩
    generalize e8 : upd H7 f _ = H8
    have f8 : H8 f = some (.dK [(.inr "held", .str z1), (.inr "each", .str z2), (.inr "lifted", .str z3)]) := new_f e8
    have dr8 : Dr P w (n + 3) H8 d := by
      rw [← e8]
      exact dr7.put f7 (fun _ z => by cases z)
    have sm8 : SmD d H H8 := fun c o nc e => by
      rw [← e8, upd_ne (ne_of_none e qf)]
      exact sm7 c o nc (s6 _ _ (sm5 c o nc e))
    clear e8
    refine ⟨_, rfl, by show 4 ≤ sizeLine; decide, fun l9 q9 => ?_⟩
    generalize e9 : upd _ _ _ = H9; have s9 := new_s e9 q9; have f9 := new_f e9
    have dr9 := dr8.same s9
    refine ⟨n + 3, d, by omega, dr9, .inl ⟨l9, _, rfl, SqL.of f9, by decide, by decide, fun i v H10 hi sm10 dr10 => ?_⟩⟩
    obtain ⟨z4, m4, rfl⟩ := str_at (zs := ["holder", "never", "scope", "scope"]) hi
    have f10 := (dr9.kp sm10).dK (s9 _ _ f8)
    refine ⟨_, rfl, f, _, rfl, DPut.k (k := .inr "ends") f10 (by show 3 < sizeLine; decide), ?_⟩
    generalize e11 : upd H10 f _ = H11
    have f11 : H11 f = some (.dK [(.inr "held", .str z1), (.inr "each", .str z2), (.inr "lifted", .str z3), (.inr "ends", .str z4)]) := new_f e11
    have dr11 : Dr P w (n + 4) H11 d := by
      rw [← e11]
      exact dr10.put f10 (fun _ z => by cases z)
    have sm11 : SmD d H H11 := fun c o nc e => by
      rw [← e11, upd_ne (ne_of_none e qf)]
      exact sm10 c o nc (s9 _ _ (sm8 c o nc e))
    clear e11
    refine ⟨_, rfl, by decide, fun l12 q12 => ?_⟩
    generalize e12 : upd _ _ _ = H12; have s12 := new_s e12 q12; have f12 := new_f e12
    have dr12 := dr11.same s12
    refine ⟨n + 4, d, by omega, dr12, .inl ⟨l12, _, rfl, SqL.of f12, by decide, by decide, fun i v H13 hi sm13 dr13 => ?_⟩⟩
    obtain ⟨z5, m5, rfl⟩ := str_at (zs := ["own", "same", "wait"]) hi
    have f13 := (dr12.kp sm13).dK (s12 _ _ f11)
    refine ⟨_, rfl, f, _, rfl, DPut.k (k := .inr "works") f13 (by show 4 < sizeLine; decide), ?_⟩
    generalize e14 : upd H13 f _ = H14
    have f14 : H14 f = some (.dK [(.inr "held", .str z1), (.inr "each", .str z2), (.inr "lifted", .str z3), (.inr "ends", .str z4), (.inr "works", .str z5)]) := new_f e14
    have dr14 : Dr P w (n + 5) H14 d := by
      rw [← e14]
      exact dr13.put f13 (fun _ z => by cases z)
    have sm14 : SmD d H H14 := fun c o nc e => by
      rw [← e14, upd_ne (ne_of_none e qf)]
      exact sm13 c o nc (s12 _ _ (sm11 c o nc e))
    clear e14
    refine ⟨by decide, fun l15 q15 => ?_⟩
    generalize e15 : upd _ _ _ = H15; have s15 := new_s e15 q15; have f15 := new_f e15
    have f15' := s15 _ _ f14
    have nl : l15 ≠ f := (ne_of_none f14 q15).symm
    refine ⟨_, rfl, f, _, rfl, DPut.k (k := .inr "bars") f15' (by show 5 < sizeLine; decide), ?_⟩
    refine ⟨_, rfl, k f l15 ⟨z1, z2, z3, z4, z5, []⟩ _ ⟨?_, ?_, ?_, ?_, ?_, fun z hz => (by cases hz), List.nodup_nil⟩ rfl ⟨upd_same, by rw [upd_ne nl]; exact f15⟩ (fun c o nc e => by rw [upd_ne (ne_of_none e qf)]; exact s15 _ _ (sm14 c o nc e)) ((dr14.same s15).put f15' (fun _ z => by cases z)) qf (smd_none sm14 dr14 q15)⟩
    all_goals
      simp only [List.mem_cons, List.not_mem_nil, or_false] at m1 m2 m3 m4 m5
      simp only [held2, each2, lift2, ends3, work3, List.mem_cons, List.not_mem_nil, or_false]
    · rcases m1 with h | h | h <;> simp [h]
    · rcases m2 with h | h | h <;> simp [h]
    · rcases m3 with h | h <;> simp [h]
    · rcases m4 with h | h | h | h <;> simp [h]
    · rcases m5 with h | h | h <;> simp [h]
end

end HL

namespace HL
open PySem PySem.Spec PyProof.Rows L2


section
variable {P : Program} {w : World} {K : PySem.W.Frag} {mg : Str → Option Value} {base : Heap}
def spBarred (P : Program) (w : World) : Sp := fun vs H Q _ => ∃ (n : Nat) (d f p : Addr) (b : Bk), vs = [.ref d, .ref f] ∧ n + 20 < 1099511627776 ∧ Dr P w n H d ∧ FAt H f p b ∧ b.Ok ∧
  ∀ (f' p' : Addr) (b' : Bk) (H' : Hp), b'.Ok → FAt H' f' p' b' → SmD d H H' → Dr P w (n + 7) H' d → H f' = none → H p' = none → Q (.ref f') H'
theorem has_barred (T : Tx K mg) : Has P w K mg base "_law_barred" 4 ["_law_draw", "_law_fields"] (spBarred P w) := by
  have h_law_pick : Has P w K mg base "_law_pick" 3 ["_law_draw", "_law_some"] (spPick P w K) := has_pick T
  have h_law_take : Has P w K mg base "_law_take" 2 ["_law_draw", "_law_size"] (spTake P w) := has_take T
  have h_law_all_bars : Has P w K mg base "_law_all_bars" 1 [] spAll := has_all T
  refine has_of (k := 3) (g_law_barred T) (d_law_barred T) sc_law_barred (fun _ _ _ _ _ _ us hl => match us, hl with | [_, _], _ => rfl) (fun vs H Q E h => ?_) (fun cdv A outer s H vs Q E hr h => ?_)
  · obtain ⟨n, d, f, p, b, rfl, _⟩ := h
    rfl
  · obtain ⟨n, d, f, p, b, rfl, hn, dr, hf, okb, k⟩ := h
    have hu := hu_of hr
    refine ⟨_, (pss_cons (ps_asg (pe_tup (pa_cons (pe_callTy call_dictD (by rfl) (m_dict T) boot_dict (pa_cons (pv 1) pa_nil)) (pa_cons (pe_has h_law_pick (hr.mono (by decide)) rfl (pa_cons (pv 0) (pa_cons (pe_lst (pa_cons pe_int (pa_cons pe_int (pa_cons pe_int (pa_cons pe_int (pa_cons pe_int pa_nil)))))) pa_nil))) pa_nil))) (pg_tup (by rfl) (pgs_cons (pg_name (i := 2) sc_law_barred.nd rfl (Or.inl rfl)) (pgs_cons (pg_name (i := 3) sc_law_barred.nd rfl (Or.inr rfl)) pgs_nil)))) (pss_cons (ps_dput hu (pv 2) pe_str (pe_lc (own := [("_law_word", 4)]) (g := gName 4) (by rfl) sc_law_barred.nd (pi_list (pe_has0 h_law_all_bars (hr.mono (by decide)) rfl)) (blkOk_by (own := [("_law_word", 4)]) (N := N_law_barred) (sc := defScope s_law_barred) (by decide +kernel)) (fun _ _ _ _ _ => (pg_name (i := 4) sc_law_barred.nd rfl (Or.inl rfl))) (fun _ _ _ _ _ => (pts_one (pt_cmpR op_lt (pe_has h_law_take (hr.mono (by decide)) rfl (pa_cons (pv 0) (pa_cons pe_int pa_nil))) (pv 3) (nomark _)))) (fun _ _ _ _ _ => (pv 4))) rfl) (pss_one (ps_ret (pv 2))))), ?_⟩
    refine ⟨_, rfl, f, _, rfl, .inl hf.1, fun x1 q1 => ?_⟩
    generalize e1 : upd _ _ _ = H1; have s1 := new_s e1 q1; have f1 := new_f e1
    refine ⟨_, rfl, by show 5 ≤ sizeLine; decide, fun l2 q2 => ?_⟩
    generalize e2 : upd _ _ _ = H2; have s2 := new_s e2 q2; have f2 := new_f e2
    have dr2 := (dr.same s1).same s2
    refine ⟨n, d, by omega, dr2, .inl ⟨l2, _, rfl, SqL.of f2, by decide, by decide, fun i v H3 hi sm3 dr3 => ?_⟩⟩
    obtain ⟨li, rfl, _⟩ := ints_at (ns := [0, 0, 1, 2, 3]) hi
    have x13 := (dr2.kp sm3).dK (s2 _ _ f1)
    refine ⟨by show 2 ≤ sizeLine; decide, fun t4 q4 => ?_⟩
    generalize e4 : upd _ _ _ = H4; have s4 := new_s e4 q4; have f4 := new_f e4
    refine ⟨t4, _, rfl, .inl (.inl f4), rfl, _, _, rfl, _, _, rfl, rfl, ?_⟩
    have dr4 := dr3.same s4
    have x14 := s4 _ _ x13
    have sm4 : SmD d H H4 := fun c o nc e => s4 _ _ (sm3 c o nc (s2 _ _ (s1 _ _ e)))
    refine ⟨rfl, fun l5 q5 => ?_⟩
    generalize e5 : upd _ _ _ = H5; have s5 := new_s e5 q5; have f5 := new_f e5
    have dr5 := dr4.same s5
    refine ⟨l5, rfl, ⟨_, SqL.of f5⟩, fun D2 hD2 => lc_list (K := K) (a := l5) (xs := bars6.map V.str) (fun i H' => ∃ acc : List Str, H' D2 = some (.lst (acc.map V.str)) ∧ acc.Sublist (bars6.take i) ∧ SmD d H5 H' ∧ Dr P w (n + 1 + i) H' d) ⟨[], upd_same, List.Sublist.refl _, .of (same_new hD2), dr5.same (same_new hD2)⟩ ?_ ?_ ?_⟩
    · rintro i H' _ ⟨acc, _, _, sm', _⟩
      exact SqL.of ((dr5.kp sm').lst f5)
    · rintro i x H' hx ⟨acc, a1, a2, sm', dr'⟩
      obtain ⟨z, hz, rfl⟩ := List.mem_map.mp (List.mem_of_getElem? hx)
      have hi : i < 6 := by
        have := (List.getElem?_eq_some_iff.mp hx).1
        rw [List.length_map] at this
        exact this
      have hx2 : bars6[i]? = some z := by
        rw [List.getElem?_map] at hx
        cases e : bars6[i]? with
        | none => rw [e] at hx; cases hx
        | some y => rw [e] at hx; cases hx; rfl
      refine ⟨rfl, _, rfl, n + 1 + i, d, 4, rfl, by decide, by decide, by omega, dr', fun kk H6 k0 k1 sm6 dr6 => ⟨_, rfl, _, _, rfl, rfl, _, rfl, ite2 (fun _ => ?_) (fun _ => ?_)⟩⟩
      · have a3 := (dr'.kp sm6).lst a1
        have hlen : acc.length ≤ 6 := by
          have := a2.length_le
          rw [List.length_take] at this
          omega
        refine ⟨_, rfl, _, a3, by rw [List.length_map]; exact Nat.lt_of_le_of_lt hlen (by decide), acc ++ [z], by rw [upd_same, List.map_append]; rfl, ?_, (sm'.trans sm6).upd hD2, (dr6.put a3 (fun _ z => by cases z)).mono (by omega)⟩
        rw [take_succ' hx2]
        exact a2.append (List.Sublist.refl _)
      · refine ⟨acc, (dr'.kp sm6).lst a1, ?_, sm'.trans sm6, dr6.mono (by omega)⟩
        rw [take_succ' hx2]
        exact a2.trans (List.sublist_append_left _ _)
    · rintro H6 ⟨acc, a1, a2, sm6, dr6⟩
      have a2 : acc.Sublist bars6 := a2
      have x16 := (dr5.kp sm6).dK (s5 _ _ x14)
      have nfD : x1 ≠ D2 := ne_of x16 a1 (by intro z; cases z)
      refine ⟨_, rfl, x1, _, rfl, DPut.k (k := .inr "bars") x16 (by show 6 < sizeLine; decide), ?_⟩
      refine ⟨_, rfl, k x1 D2 { b with bars := acc } _ ⟨okb.h, okb.e, okb.l, okb.n, okb.k, fun z hz => a2.subset hz, a2.nodup (by decide)⟩ ⟨upd_same, by rw [upd_ne nfD.symm]; exact a1⟩ (fun c o nc e => ?_) ?_ q1 ?_⟩
      · rw [upd_ne (ne_of_none e q1)]
        exact sm6 c o nc (s5 _ _ (sm4 c o nc e))
      · exact (dr6.put x16 (fun _ z => by cases z)).mono (by show n + 1 + 6 ≤ n + 7; omega)
      · exact smd_none (sm4.sm s5) dr5 hD2
end

end HL

namespace HL
open PySem PySem.Spec PyProof.Rows L2


section
variable {P : Program} {w : World} {K : PySem.W.Frag} {mg : Str → Option Value} {base : Heap}
def spOne (P : Program) (w : World) : Sp := fun vs H Q _ => ∃ (n : Nat) (d : Addr) (k : Int), vs = [.ref d, .int k] ∧ n + 20 < 1099511627776 ∧ Dr P w n H d ∧ 1 ≤ k ∧ k ≤ 3 ∧
  ∀ (t : Addr) (s : Sd) (H' : Hp), s.Form k → H' t = some (.tup s.vs) → SmD d H H' → Dr P w (n + 6) H' d → Q (.ref t) H'
theorem has_one (T : Tx K mg) : Has P w K mg base "_law_any_one" 4 ["_law_draw", "_law_deep"] (spOne P w) := by
  have h_law_pick : Has P w K mg base "_law_pick" 3 ["_law_draw", "_law_some"] (spPick P w K) := has_pick T
  have h_law_take : Has P w K mg base "_law_take" 2 ["_law_draw", "_law_size"] (spTake P w) := has_take T
  refine has_of (k := 3) (g_law_any_one T) (d_law_any_one T) sc_law_any_one (fun _ _ _ _ _ _ us hl => match us, hl with | [_, _], _ => rfl) (fun vs H Q E h => ?_) (fun cdv A outer s H vs Q E hr h => ?_)
  · obtain ⟨n, d, k, rfl, _⟩ := h
    rfl
  · obtain ⟨n, d, k, rfl, hn, dr, k1, k3, q⟩ := h
    refine ⟨_, (pss_cons (ps_set (i := 2) sc_law_any_one.nd rfl (Or.inl rfl) (pe_op op_sub (pe_has h_law_take (hr.mono (by decide)) rfl (pa_cons (pv 0) (pa_cons (pe_op op_add (pv 1) pe_int) pa_nil))) pe_int)) (pss_cons (ps_set (i := 3) sc_law_any_one.nd rfl (Or.inl rfl) (pe_has h_law_take (hr.mono (by decide)) rfl (pa_cons (pv 0) (pa_cons (pe_op op_add pe_int (pe_ifExp (pt_cmpR op_eq (pv 2) (pe_un un_neg pe_int) (nomark _)) (pv 1) (pv 2))) pa_nil)))) (pss_cons (ps_par (i := 4) (j := 5) (by rfl) sc_law_any_one.nd rfl rfl (by decide) rfl rfl (pa_cons (pe_has h_law_pick (hr.mono (by decide)) rfl (pa_cons (pv 0) (pa_cons (pe_lst (pa_cons pe_str (pa_cons pe_str (pa_cons pe_str pa_nil)))) pa_nil))) (pa_cons (pe_cmpR op_eq (pe_has h_law_take (hr.mono (by decide)) rfl (pa_cons (pv 0) (pa_cons pe_int pa_nil))) pe_int (nomark _)) pa_nil)) (by rfl)) (pss_cons (ps_if (pt_cmpR op_eq (pv 4) pe_str (nomark _)) (pss_one (ps_ret (pe_tup (pa_cons (pv 2) (pa_cons (pv 3) (pa_cons (pv 4) (pa_cons pe_int (pa_cons pe_bl (pa_cons (pv 5) pa_nil))))))))) pss_nil) (pss_one (ps_ret (pe_tup (pa_cons (pv 2) (pa_cons (pv 3) (pa_cons (pv 4) (pa_cons (pe_has h_law_take (hr.mono (by decide)) rfl (pa_cons (pv 0) (pa_cons (pv 1) pa_nil))) (pa_cons (pe_cmpR op_eq (pe_has h_law_take (hr.mono (by decide)) rfl (pa_cons (pv 0) (pa_cons pe_int pa_nil))) pe_int (nomark _)) (pa_cons (pv 5) pa_nil))))))))))))), ?_⟩
    refine ⟨_, rfl, _, rfl, _, _, rfl, rfl, n, d, k + 2, rfl, by omega, by omega, by omega, dr, fun l1 H1 a0 a1 sm1 dr1 => ?_⟩
    refine ⟨_, _, rfl, rfl, ?_⟩
    refine ⟨_, rfl, _, rfl, _, rfl, rfl, _, rfl, ?_⟩
    by_cases hl : l1 - 1 = -1
    · rw [decide_eq_true (show V.int (l1 - 1) = V.int (-1) from congrArg V.int hl)]
      refine iteT ⟨_, rfl, ?_⟩
      refine ⟨_, _, rfl, rfl, n + 1, d, 1 + k, rfl, by omega, by omega, by omega, dr1, fun v2 H2 c0 c1 sm2 dr2 => ?_⟩
      refine ⟨_, rfl, by decide, fun p3 q3 => ?_⟩
      generalize e3 : upd _ _ _ = H3; have s3 := new_s e3 q3; have f3 := new_f e3
      have dr3 := dr2.same s3
      refine ⟨n + 2, d, by omega, dr3, .inl ⟨p3, _, rfl, SqL.of f3, by decide, by decide, fun i v H4 hi sm4 dr4 => ?_⟩⟩
      obtain ⟨mz, hm, rfl⟩ := str_at (zs := ["own", "other", "other"]) hi
      refine ⟨_, rfl, n + 3, d, 2, rfl, by decide, by decide, by omega, dr4, fun k5 H5 d0 d1 sm5 dr5 => ⟨rfl, _, _, rfl, ?_⟩⟩
      have sm05 : SmD d H H5 := ((sm1.trans sm2).sm s3).trans (sm4.trans sm5)
      have hm2 : mz ∈ ([Str.ofString "own", Str.ofString "other"] : List Str) := by
        simp only [List.mem_cons, List.not_mem_nil, or_false] at hm ⊢
        rcases hm with h | h | h <;> simp [h]
      generalize hkept : decide (V.int k5 = V.int 0) = kept
      refine ⟨_, rfl, rfl, _, rfl, ?_⟩
      by_cases hm3 : mz = "own"
      · rw [decide_eq_true (show V.str mz = V.str (Str.ofString "own") from congrArg V.str hm3)]
        refine iteT ⟨_, rfl, _, rfl, _, rfl, _, rfl, by show 6 ≤ sizeLine; decide, fun t6 q6 => ?_⟩
        generalize e6 : upd _ _ _ = H6; have s6 := new_s e6 q6; have f6 := new_f e6
        exact q t6 ⟨l1 - 1, v2, mz, 0, false, kept⟩ H6 ⟨by show -1 ≤ l1 - 1; omega, by show l1 - 1 ≤ k; omega, c0, (by show v2 ≤ (if l1 - 1 = -1 then k else l1 - 1); rw [if_pos hl]; omega), (by show (0 : Int) ≤ 0; decide), by show (0 : Int) < k; omega, hm2, .inr ⟨rfl, rfl⟩⟩ f6 (sm05.sm s6) ((dr5.same s6).mono (by omega))
      · rw [decide_eq_false (fun e => hm3 (V.str.inj e))]
        have hm4 : mz = "other" := by
          simp only [List.mem_cons, List.not_mem_nil, or_false] at hm2
          exact hm2.resolve_left hm3
        refine iteF ⟨_, rfl, _, rfl, _, rfl, _, rfl, _, rfl, n + 4, d, k, rfl, by omega, by omega, by omega, dr5, fun c6 H6 e0 e1 sm6 dr6 => ?_⟩
        refine ⟨_, rfl, n + 5, d, 2, rfl, by decide, by decide, by omega, dr6, fun p7 H7 g0 g1 sm7 dr7 => ⟨rfl, ?_⟩⟩
        generalize hpast : decide (V.int p7 = V.int 0) = past
        refine ⟨_, rfl, by show 6 ≤ sizeLine; decide, fun t8 q8 => ?_⟩
        generalize e8 : upd _ _ _ = H8; have s8 := new_s e8 q8; have f8 := new_f e8
        exact q t8 ⟨l1 - 1, v2, mz, c6, past, kept⟩ H8 ⟨by show -1 ≤ l1 - 1; omega, by show l1 - 1 ≤ k; omega, c0, (by show v2 ≤ (if l1 - 1 = -1 then k else l1 - 1); rw [if_pos hl]; omega), e0, e1, hm2, .inl hm4⟩ f8 ((sm05.trans (sm6.trans sm7)).sm s8) (dr7.same s8)
    · rw [decide_eq_false (fun e => hl (V.int.inj e))]
      refine iteF ⟨_, rfl, ?_⟩
      refine ⟨_, _, rfl, rfl, n + 1, d, 1 + (l1 - 1), rfl, by omega, by omega, by omega, dr1, fun v2 H2 c0 c1 sm2 dr2 => ?_⟩
      refine ⟨_, rfl, by decide, fun p3 q3 => ?_⟩
      generalize e3 : upd _ _ _ = H3; have s3 := new_s e3 q3; have f3 := new_f e3
      have dr3 := dr2.same s3
      refine ⟨n + 2, d, by omega, dr3, .inl ⟨p3, _, rfl, SqL.of f3, by decide, by decide, fun i v H4 hi sm4 dr4 => ?_⟩⟩
      obtain ⟨mz, hm, rfl⟩ := str_at (zs := ["own", "other", "other"]) hi
      refine ⟨_, rfl, n + 3, d, 2, rfl, by decide, by decide, by omega, dr4, fun k5 H5 d0 d1 sm5 dr5 => ⟨rfl, _, _, rfl, ?_⟩⟩
      have sm05 : SmD d H H5 := ((sm1.trans sm2).sm s3).trans (sm4.trans sm5)
      have hm2 : mz ∈ ([Str.ofString "own", Str.ofString "other"] : List Str) := by
        simp only [List.mem_cons, List.not_mem_nil, or_false] at hm ⊢
        rcases hm with h | h | h <;> simp [h]
      generalize hkept : decide (V.int k5 = V.int 0) = kept
      refine ⟨_, rfl, rfl, _, rfl, ?_⟩
      by_cases hm3 : mz = "own"
      · rw [decide_eq_true (show V.str mz = V.str (Str.ofString "own") from congrArg V.str hm3)]
        refine iteT ⟨_, rfl, _, rfl, _, rfl, _, rfl, by show 6 ≤ sizeLine; decide, fun t6 q6 => ?_⟩
        generalize e6 : upd _ _ _ = H6; have s6 := new_s e6 q6; have f6 := new_f e6
        exact q t6 ⟨l1 - 1, v2, mz, 0, false, kept⟩ H6 ⟨by show -1 ≤ l1 - 1; omega, by show l1 - 1 ≤ k; omega, c0, (by show v2 ≤ (if l1 - 1 = -1 then k else l1 - 1); rw [if_neg hl]; omega), (by show (0 : Int) ≤ 0; decide), by show (0 : Int) < k; omega, hm2, .inr ⟨rfl, rfl⟩⟩ f6 (sm05.sm s6) ((dr5.same s6).mono (by omega))
      · rw [decide_eq_false (fun e => hm3 (V.str.inj e))]
        have hm4 : mz = "other" := by
          simp only [List.mem_cons, List.not_mem_nil, or_false] at hm2
          exact hm2.resolve_left hm3
        refine iteF ⟨_, rfl, _, rfl, _, rfl, _, rfl, _, rfl, n + 4, d, k, rfl, by omega, by omega, by omega, dr5, fun c6 H6 e0 e1 sm6 dr6 => ?_⟩
        refine ⟨_, rfl, n + 5, d, 2, rfl, by decide, by decide, by omega, dr6, fun p7 H7 g0 g1 sm7 dr7 => ⟨rfl, ?_⟩⟩
        generalize hpast : decide (V.int p7 = V.int 0) = past
        refine ⟨_, rfl, by show 6 ≤ sizeLine; decide, fun t8 q8 => ?_⟩
        generalize e8 : upd _ _ _ = H8; have s8 := new_s e8 q8; have f8 := new_f e8
        exact q t8 ⟨l1 - 1, v2, mz, c6, past, kept⟩ H8 ⟨by show -1 ≤ l1 - 1; omega, by show l1 - 1 ≤ k; omega, c0, (by show v2 ≤ (if l1 - 1 = -1 then k else l1 - 1); rw [if_neg hl]; omega), e0, e1, hm2, .inl hm4⟩ f8 ((sm05.trans (sm6.trans sm7)).sm s8) (dr7.same s8)
end

end HL

namespace HL
open PySem PySem.Spec PyProof.Rows L2


section
variable {P : Program} {w : World} {K : PySem.W.Frag} {mg : Str → Option Value} {base : Heap}
def spFormL : Sp := fun vs H Q _ => ∃ (k k0 : Int) (t : Addr) (s : Sd), vs = [.int k, .ref t] ∧ H t = some (.tup s.vs) ∧ s.Form k0 ∧ ∀ (β : Bool) (H' : Hp), Same H H' → (β = true → s.Form k) → Q (.bl β) H'
theorem has_formL (T : Tx K mg) : Has P w K mg base "_law_is_form" 2 ["_law_deep", "_law_some"] spFormL := by
  have h_law_is_number : Has P w K mg base "_law_is_number" 1 ["_law_thing"] (spNum K) := has_lnum T
  refine has_of (k := 1) (g_law_is_form T) (d_law_is_form T) sc_law_is_form (fun _ _ _ _ _ _ us hl => match us, hl with | [_, _], _ => rfl) (fun vs H Q E h => ?_) (fun cdv A outer s H vs Q E hr h => ?_)
  · obtain ⟨k, k0, t, s, rfl, _⟩ := h
    rfl
  · obtain ⟨k, k0, t, s, rfl, ht, fm, q⟩ := h
    refine ⟨_, (pss_cons (ps_if (PW.pt (pw_or (pt_not (pt_val (pe_callB call_isi (by rfl) (m_isinstance T) boot_isinstance (pa_cons (pv 1) (pa_cons (pe_bltn (v := .ty "tuple") (by rfl) (m_tuple T) boot_tuple rfl) pa_nil))))) (pw_or (pt_cmpR op_ne (pe_callB call_len_seq (by rfl) (m_len T) boot_len (pa_cons (pv 1) pa_nil)) pe_int (nomark _)) (pw_or1 (pt_not (pt_val (pe_callB call_isi (by rfl) (m_isinstance T) boot_isinstance (pa_cons (pe_ix ix_tup (pv 1) pe_int (fun _ _ => rfl)) (pa_cons (pe_bltn (v := .ty "str") (by rfl) (m_str T) boot_str rfl) pa_nil))))))))) (pss_one (ps_ret pe_bl)) pss_nil) (pss_cons (ps_if (pt_cmpR (op_neNil hr.units) (pe_lc (own := [("_law_one", 8)]) (g := gName 8) (by rfl) sc_law_is_form.nd (pi_tup (pe_tup (pa_cons (pe_ix ix_tup (pv 1) pe_int (fun _ _ => rfl)) (pa_cons (pe_ix ix_tup (pv 1) pe_int (fun _ _ => rfl)) (pa_cons (pe_ix ix_tup (pv 1) pe_int (fun _ _ => rfl)) pa_nil))))) (blkOk_by (own := [("_law_one", 8)]) (N := N_law_is_form) (sc := defScope s_law_is_form) (by decide +kernel)) (fun _ _ _ _ _ => (pg_name (i := 8) sc_law_is_form.nd rfl (Or.inl rfl))) (fun _ _ _ _ _ => (pts_one (pt_not (pt_val (pe_has h_law_is_number (hr.mono (by decide)) rfl (pa_cons (pv 8) pa_nil)))))) (fun _ _ _ _ _ => (pv 8))) (pe_lst pa_nil) (nomark _)) (pss_one (ps_ret pe_bl)) pss_nil) (pss_cons (ps_if (PW.pt (pw_or (pt_cmpR (op_neNil hr.units) (pe_lc (own := [("_law_one", 8)]) (g := gName 8) (by rfl) sc_law_is_form.nd (pi_tup (pe_slice sl_tupA (pv 1) (po_some pe_int) po_none)) (blkOk_by (own := [("_law_one", 8)]) (N := N_law_is_form) (sc := defScope s_law_is_form) (by decide +kernel)) (fun _ _ _ _ _ => (pg_name (i := 8) sc_law_is_form.nd rfl (Or.inl rfl))) (fun _ _ _ _ _ => (pts_one (pt_not (pt_val (pe_callB (show CallR _ _ (rIsi K) from call_isi) (by rfl) (m_isinstance T) boot_isinstance (pa_cons (pv 8) (pa_cons (pe_bltn (v := .ty "bool") (by rfl) (m_bool T) boot_bool rfl) pa_nil))))))) (fun _ _ _ _ _ => (pv 8))) (pe_lst pa_nil) (nomark _)) (pw_or1 (pt_cmpR op_notIn_seq (pe_ix ix_tup (pv 1) pe_int (fun _ _ => rfl)) (pe_tup (pa_cons pe_str (pa_cons pe_str pa_nil))) rfl)))) (pss_one (ps_ret pe_bl)) pss_nil) (pss_cons (ps_asg (pv 1) (pg_tup (by rfl) (pgs_cons (pg_name (i := 2) sc_law_is_form.nd rfl (Or.inl rfl)) (pgs_cons (pg_name (i := 3) sc_law_is_form.nd rfl (Or.inl rfl)) (pgs_cons (pg_name (i := 4) sc_law_is_form.nd rfl (Or.inl rfl)) (pgs_cons (pg_name (i := 5) sc_law_is_form.nd rfl (Or.inl rfl)) (pgs_cons (pg_name (i := 6) sc_law_is_form.nd rfl (Or.inl rfl)) (pgs_cons (pg_name (i := 7) sc_law_is_form.nd rfl (Or.inl rfl)) pgs_nil)))))))) (pss_cons (ps_if (PW.pt (pw_or (pt_cmpR op_lt (pv 2) (pe_un un_neg pe_int) (nomark _)) (pw_or (pt_cmpR op_gt (pv 2) (pv 0) (nomark _)) (pw_or (pt_cmpR op_lt (pv 3) pe_int (nomark _)) (pw_or (pt_cmpR op_lt (pv 5) pe_int (nomark _)) (pw_or1 (pt_cmpR op_ge (pv 5) (pv 0) (nomark _)))))))) (pss_one (ps_ret pe_bl)) pss_nil) (pss_cons (ps_if (PW.pt (pw_or (pt_cmpR op_gt (pv 3) (pv 0) (nomark _)) (pw_or1 (PW.pt (pw_and (pt_cmpR op_ge (pv 2) pe_int (nomark _)) (pw_and1 (pt_cmpR op_gt (pv 3) (pv 2) (nomark _)))))))) (pss_one (ps_ret pe_bl)) pss_nil) (pss_one (ps_ret (pe_or (pe_cmpR op_eq (pv 4) pe_str (nomark _)) (pe_one (pe_and (pe_not (pv 6)) (pe_one (pe_cmpR op_eq (pv 5) pe_int (nomark _)))))))))))))), ?_⟩
    refine ⟨_, rfl, _, _, _, _, true, rfl, .ty "tuple", .base (.tup ht), rfl, true, rfl, iteF ?_⟩
    refine ⟨_, rfl, t, _, rfl, .inr (.inl (.inl ht)), rfl, _, rfl, iteF ?_⟩
    refine ⟨_, rfl, _, _, _, _, rfl, rfl, .inl (.inl ht), rfl, _, _, _, _, true, rfl, .ty "str", .base (.str _), rfl, true, rfl, iteF ?_⟩
    refine ⟨_, rfl, _, _, _, _, rfl, rfl, .inl (.inl ht), rfl, _, rfl, _, _, _, _, rfl, rfl, .inl (.inl ht), rfl, _, rfl, _, _, _, _, rfl, rfl, .inl (.inl ht), rfl, by show 3 ≤ sizeLine; decide, fun t1 q1 => ?_⟩
    generalize e1 : upd _ _ _ = H1; have s1 := new_s e1 q1; have f1 := new_f e1
    refine ⟨t1, rfl, ⟨_, .inl (.inl f1)⟩, fun D2 q2 => lct_pure (fun _ => false) id q2 (.inl (.inl f1)) (by show 3 ≤ sizeLine; decide) ?_ ?_⟩
    · intro j x H' Q' R hx sm _ r2
      obtain ⟨z, rfl, _⟩ := ints_at (ns := [s.life, s.level, s.common]) hx
      exact ⟨rfl, _, rfl, z, rfl, true, rfl, iteF (r2 rfl)⟩
    refine ⟨by decide, fun p3 q3 => ?_⟩
    generalize e2 : upd H1 D2 _ = H2 at q3 ⊢; have s2 := new_s e2 q2; have f2 := new_f e2
    generalize e3 : upd _ _ _ = H3; have s3 := new_s e3 q3; have f3 := new_f e3
    refine ⟨D2, p3, [], rfl, rfl, SqL.of (s3 _ _ f2), SqL.of f3, false, rfl, iteF ?_⟩
    have s03 : Same H H3 := (s1.trans s2).trans s3
    have ht3 := s03 _ _ ht
    refine ⟨_, rfl, _, rfl, t, _, rfl, .inl (.inl ht3), fun z => (by cases z.1), fun _ t4 q4 => ?_⟩
    have ec : cutV s.vs (some 4) none = [.bl s.past, .bl s.rooted] := rfl
    rw [ec]
    generalize e4 : upd _ _ _ = H4; have s4 := new_s e4 q4; have f4 := new_f e4
    refine ⟨t4, rfl, ⟨_, .inl (.inl f4)⟩, fun D5 q5 => lct_pure (fun _ => false) id q5 (.inl (.inl f4)) (by show 2 ≤ sizeLine; decide) ?_ ?_⟩
    · intro j x H' Q' R hx sm _ r2
      obtain ⟨z, rfl⟩ : ∃ z : Bool, x = .bl z := by
        have m := List.mem_of_getElem? hx
        simp only [List.mem_cons, List.not_mem_nil, or_false] at m
        rcases m with rfl | rfl
        all_goals exact ⟨_, rfl⟩
      exact ⟨rfl, _, rfl, _, _, _, _, true, rfl, .ty "bool", .base (.bl z), rfl, true, rfl, iteF (r2 rfl)⟩
    refine ⟨by decide, fun p6 q6 => ?_⟩
    generalize e5 : upd H4 D5 _ = H5 at q6 ⊢; have s5 := new_s e5 q5; have f5 := new_f e5
    generalize e6 : upd _ _ _ = H6; have s6 := new_s e6 q6; have f6 := new_f e6
    refine ⟨D5, p6, [], rfl, rfl, SqL.of (s6 _ _ f5), SqL.of f6, false, rfl, iteF ?_⟩
    have s06 : Same H H6 := ((s03.trans s4).trans s5).trans s6
    have ht6 := s06 _ _ ht
    refine ⟨_, rfl, _, _, _, _, rfl, rfl, .inl (.inl ht6), rfl, by decide, fun t7 q7 => ?_⟩
    generalize e7 : upd _ _ _ = H7; have s7 := new_s e7 q7; have f7 := new_f e7
    refine ⟨t7, _, rfl, .inr (.inl (.inl f7)), rfl, flat_strs [Str.ofString "own", Str.ofString "other"], _, rfl, ?_⟩
    show if (!inV (.str s.made) (([Str.ofString "own", Str.ofString "other"] : List Str).map V.str)) = true then _ else _
    rw [inV_strs, decide_eq_true fm.m]
    refine iteF ?_
    have s07 := s06.trans s7
    have ht7 := s07 _ _ ht
    refine ⟨_, rfl, t, _, rfl, .inl (.inl ht7), rfl, _, _, rfl, _, _, rfl, _, _, rfl, _, _, rfl, _, _, rfl, _, _, rfl, rfl, ?_⟩
    have no := q false H7 s07 (fun z => by cases z)
    clear e1 e2 e3 e4 e5 e6 e7 ec
    refine ⟨_, rfl, _, rfl, _, _, rfl, rfl, _, rfl, ?_⟩
    rw [decide_eq_false (Int.not_lt.mpr fm.l0)]
    refine iteF ⟨_, rfl, _, rfl, _, _, rfl, rfl, _, rfl, ite2 (fun _ => no) (fun c1 => ?_)⟩
    refine ⟨_, rfl, _, _, rfl, rfl, _, rfl, ?_⟩
    rw [decide_eq_false (Int.not_lt.mpr fm.v0)]
    refine iteF ⟨_, rfl, _, _, rfl, rfl, _, rfl, ?_⟩
    rw [decide_eq_false (Int.not_lt.mpr fm.c0)]
    refine iteF ⟨_, rfl, _, rfl, _, _, rfl, rfl, _, rfl, ite2 (fun _ => no) (fun c2 => ?_)⟩
    refine ⟨_, rfl, _, rfl, _, _, rfl, rfl, _, rfl, ite2 (fun _ => no) (fun c3 => ?_)⟩
    rw [Bool.not_eq_true, decide_eq_false_iff_not] at c1 c2 c3
    have fin : (s.level ≤ (if s.life = -1 then k else s.life)) → s.Form k := fun hv => ⟨fm.l0, by omega, fm.v0, hv, fm.c0, by omega, fm.m, fm.o⟩
    refine ⟨_, rfl, _, _, rfl, rfl, _, rfl, ?_⟩
    by_cases h0 : 0 ≤ s.life
    · rw [decide_eq_true h0]
      refine iteT ⟨_, rfl, _, rfl, _, _, rfl, rfl, _, rfl, ite2 (fun _ => no) (fun c4 => ?_)⟩
      rw [Bool.not_eq_true, decide_eq_false_iff_not] at c4
      have hv : s.level ≤ (if s.life = -1 then k else s.life) := by
        rw [if_neg (by omega)]
        omega
      refine ⟨_, rfl, rfl, _, rfl, ite2 (fun _ => q _ H7 s07 fun _ => fin hv) (fun _ => ?_)⟩
      refine ⟨_, rfl, s.past, rfl, _, rfl, ite2 (fun _ => ?_) (fun _ => no)⟩
      exact ⟨_, rfl, rfl, q _ H7 s07 fun _ => fin hv⟩
    · rw [decide_eq_false h0]
      refine iteF ?_
      have hv : s.level ≤ (if s.life = -1 then k else s.life) := by
        have := fm.l0
        rw [if_pos (by omega)]
        omega
      refine ⟨_, rfl, rfl, _, rfl, ite2 (fun _ => q _ H7 s07 fun _ => fin hv) (fun _ => ?_)⟩
      refine ⟨_, rfl, s.past, rfl, _, rfl, ite2 (fun _ => ?_) (fun _ => no)⟩
      exact ⟨_, rfl, rfl, q _ H7 s07 fun _ => fin hv⟩
end

end HL

namespace HL
open PySem PySem.Spec PyProof.Rows L2


section
variable {P : Program} {w : World} {K : PySem.W.Frag} {mg : Str → Option Value} {base : Heap}
def spOther (P : Program) (w : World) : Sp := fun vs H Q _ => ∃ (n : Nat) (d f p : Addr) (b : Bk), vs = [.ref d, .ref f] ∧ n + 20 < 1099511627776 ∧ Dr P w n H d ∧ FAt H f p b ∧ b.Ok ∧
  ∀ (f' : Addr) (b' : Bk) (H' : Hp), b'.Ok → FAt H' f' p b' → SmD d H H' → Dr P w (n + 2) H' d → Q (.ref f') H'
theorem has_other (T : Tx K mg) : Has P w K mg base "_law_other_fields" 4 ["_law_draw", "_law_fields"] (spOther P w) := by
  have h_law_pick : Has P w K mg base "_law_pick" 3 ["_law_draw", "_law_some"] (spPick P w K) := has_pick T
  refine has_of (k := 3) (g_law_other_fields T) (d_law_other_fields T) sc_law_other_fields (fun _ _ _ _ _ _ us hl => match us, hl with | [_, _], _ => rfl) (fun vs H Q E h => ?_) (fun cdv A outer s H vs Q E hr h => ?_)
  · obtain ⟨n, d, f, p, b, rfl, _⟩ := h
    rfl
  · obtain ⟨n, d, f, p, b, rfl, hn, dr, hf, okb, k⟩ := h
    have hu := hu_of hr
    refine ⟨_, (pss_cons (ps_asg (pe_tup (pa_cons (pe_has h_law_pick (hr.mono (by decide)) rfl (pa_cons (pv 0) (pa_cons (pe_lst (pa_cons pe_str (pa_cons pe_str (pa_cons pe_str (pa_cons pe_str pa_nil))))) pa_nil))) (pa_cons (pe_callTy call_dictD (by rfl) (m_dict T) boot_dict (pa_cons (pv 1) pa_nil)) pa_nil))) (pg_tup (by rfl) (pgs_cons (pg_name (i := 2) sc_law_other_fields.nd rfl (Or.inr rfl)) (pgs_cons (pg_name (i := 3) sc_law_other_fields.nd rfl (Or.inl rfl)) pgs_nil)))) (pss_cons (ps_set (i := 4) sc_law_other_fields.nd rfl (Or.inl rfl) (pe_disp (pps_cons pe_str (pe_lst (pa_cons pe_str (pa_cons pe_str pa_nil))) (pps_cons pe_str (pe_lst (pa_cons pe_str (pa_cons pe_str pa_nil))) (pps_cons pe_str (pe_lst (pa_cons pe_str (pa_cons pe_str pa_nil))) pps_nil))) (by rfl) (by rfl) (fun z => by cases z) (by decide))) (pss_cons (ps_dput hu (pv 4) pe_str (pe_lst (pa_cons pe_str (pa_cons pe_str (pa_cons pe_str pa_nil)))) rfl) (pss_cons (ps_dput hu (pv 3) (pv 2) (pe_has h_law_pick (hr.mono (by decide)) rfl (pa_cons (pv 0) (pa_cons (pe_lc (own := [("_law_other", 5)]) (g := gName 5) (by rfl) sc_law_other_fields.nd (pi_list (pe_dget hu (pv 4) (pv 2) (fun _ _ => rfl))) (blkOk_by (own := [("_law_other", 5)]) (N := N_law_other_fields) (sc := defScope s_law_other_fields) (by decide +kernel)) (fun _ _ _ _ _ => (pg_name (i := 5) sc_law_other_fields.nd rfl (Or.inl rfl))) (fun _ _ _ _ _ => (pts_one (pt_cmpR op_ne (pv 5) (pe_dget hu (pv 1) (pv 2) (fun _ _ => rfl)) (nomark _)))) (fun _ _ _ _ _ => (pv 5))) pa_nil))) rfl) (pss_one (ps_ret (pv 3))))))), ?_⟩
    refine ⟨_, rfl, by decide, fun l1 q1 => ?_⟩
    generalize e1 : upd _ _ _ = H1; have s1 := new_s e1 q1; have f1 := new_f e1
    have dr1 := dr.same s1
    refine ⟨n, d, by omega, dr1, .inl ⟨l1, _, rfl, SqL.of f1, by decide, by decide, fun i v H2 hi sm2 dr2 => ?_⟩⟩
    obtain ⟨z, hz, rfl⟩ := str_at (zs := ["held", "each", "lifted", "ends"]) hi
    have sm02 : SmD d H H2 := (SmD.of s1).trans sm2
    have hf2 := hf.kp (dr.kp sm02)
    refine ⟨_, rfl, f, _, rfl, .inl hf2.1, fun x3 q3 => ?_⟩
    generalize e3 : upd _ _ _ = H3; have s3 := new_s e3 q3; have f3 := new_f e3
    refine ⟨by show 2 ≤ sizeLine; decide, fun t10 q10 => ?_⟩
    generalize e10 : upd _ _ _ = H10; have s10 := new_s e10 q10; have f10 := new_f e10
    refine ⟨t10, _, rfl, .inl (.inl f10), rfl, _, _, rfl, _, _, rfl, rfl, ?_⟩
    refine fun g qg => ?_
    have g0 : upd H10 g (.dK []) g = some (.dK []) := upd_same
    have sg : Same H10 (upd H10 g (.dK [])) := same_new qg
    generalize upd H10 g (.dK []) = H0 at *
    refine ⟨by decide, fun l4 q4 => ?_⟩
    generalize e4 : upd _ _ _ = H4; have s4 := new_s e4 q4; have f4 := new_f e4
    refine ⟨by decide, fun l5 q5 => ?_⟩
    generalize e5 : upd _ _ _ = H5; have s5 := new_s e5 q5; have f5 := new_f e5
    refine ⟨by decide, fun l6 q6 => ?_⟩
    generalize e6 : upd _ _ _ = H6; have s6 := new_s e6 q6; have f6 := new_f e6
    have g6 := s6 _ _ (s5 _ _ (s4 _ _ g0))
    refine ⟨g6, [(.inr "held", .ref l4), (.inr "each", .ref l5), (.inr "lifted", .ref l6)], rfl, by show 3 ≤ 15; decide, ?_⟩
    generalize e7 : upd H6 g _ = H7
    have g7 : H7 g = some (.dK [(.inr "held", .ref l4), (.inr "each", .ref l5), (.inr "lifted", .ref l6)]) := new_f e7
    have m7 : ∀ u o, u ≠ g → H6 u = some o → H7 u = some o := fun u o nu e => by
      rw [← e7, upd_ne nu]
      exact e
    have s37 : Same H10 H7 := fun u o e => m7 u o (ne_of_none e qg) (s6 _ _ (s5 _ _ (s4 _ _ (sg _ _ e))))
    have l47 : H7 l4 = some (.lst ([Str.ofString "home", Str.ofString "now"].map V.str)) := m7 _ _ (ne_of_none g0 q4).symm (s6 _ _ (s5 _ _ f4))
    have l57 : H7 l5 = some (.lst ([Str.ofString "now", Str.ofString "program"].map V.str)) := m7 _ _ (ne_of_none (s4 _ _ g0) q5).symm (s6 _ _ f5)
    have l67 : H7 l6 = some (.lst ([Str.ofString "nothing", Str.ofString "kept"].map V.str)) := m7 _ _ (ne_of_none (s5 _ _ (s4 _ _ g0)) q6).symm f6
    clear e7 m7 g6 f4 f5 f6 s4 s5 s6 e4 e5 e6
    refine ⟨by decide, fun l8 q8 => ?_⟩
    generalize e8 : upd _ _ _ = H8; have s8 := new_s e8 q8; have f8 := new_f e8
    have g8 := s8 _ _ g7
    refine ⟨_, rfl, g, _, rfl, DPut.k (k := .inr "ends") g8 (by show 3 < sizeLine; decide), ?_⟩
    generalize e9 : upd H8 g _ = H9
    have g9 : H9 g = some (.dK [(.inr "held", .ref l4), (.inr "each", .ref l5), (.inr "lifted", .ref l6), (.inr "ends", .ref l8)]) := new_f e9
    have m9 : ∀ u o, u ≠ g → H8 u = some o → H9 u = some o := fun u o nu e => by
      rw [← e9, upd_ne nu]
      exact e
    have s39 : Same H10 H9 := fun u o e => m9 u o (ne_of_none e qg) (s8 _ _ (s37 _ _ e))
    have l49 := m9 _ _ (ne_of l47 g7 (by intro z; cases z)) (s8 _ _ l47)
    have l59 := m9 _ _ (ne_of l57 g7 (by intro z; cases z)) (s8 _ _ l57)
    have l69 := m9 _ _ (ne_of l67 g7 (by intro z; cases z)) (s8 _ _ l67)
    have l89 := m9 _ _ (ne_of_none g7 q8).symm f8
    clear e9 m9
    have dr9 : Dr P w (n + 1) H9 d := ((dr2.same s3).same s10).same s39
    have s29 : Same H2 H9 := (s3.trans s10).trans s39
    have hf9 := hf2.kp (Kp.of s29)
    have x9 : H9 x3 = some (.dK (fkv b p)) := s39 _ _ (s10 _ _ f3)
    have sm9 : SmD d H H9 := sm02.sm s29
    clear e8 s8 g8 g7 l47 l57 l67 s37 e10 f10 e3
    obtain ⟨l, v0, zs, hl, h2, h3, hnd, hg, hfz, hput⟩ : ∃ (l : Addr) (v0 : Str) (zs : List Str), H9 l = some (.lst (zs.map V.str)) ∧ 2 ≤ zs.length ∧ zs.length ≤ 3 ∧ zs.Nodup ∧
      DGet H9 g (.str z) (some (.ref l)) ∧ (∀ H', Same H9 H' → DGet H' f (.str z) (some (.str v0))) ∧
      (∀ (y : Str) (H' : Hp), y ∈ zs → H' x3 = some (.dK (fkv b p)) → ∃ b' : Bk, b'.Ok ∧ b'.bars = b.bars ∧ DPut H' x3 (.str z) (.str y) (upd H' x3 (.dK (fkv b' p)))) := by
      simp only [List.mem_cons, List.not_mem_nil, or_false] at hz
      rcases hz with rfl | rfl | rfl | rfl
      · refine ⟨l4, b.held, ["home", "now"], l49, by decide, by decide, by decide, DGet.k (k := .inr "held") g9, fun H' sm => (hf9.kp (Kp.of sm)).held, fun y H' hy hx => ⟨{ b with held := y }, ⟨?_, okb.e, okb.l, okb.n, okb.k, okb.r, okb.d⟩, rfl, DPut.k (k := .inr "held") hx (by show 6 < sizeLine; decide)⟩⟩
        simp only [held2, List.mem_cons, List.not_mem_nil, or_false] at hy ⊢
        rcases hy with h | h <;> simp [h]
      · refine ⟨l5, b.each, ["now", "program"], l59, by decide, by decide, by decide, DGet.k (k := .inr "each") g9, fun H' sm => (hf9.kp (Kp.of sm)).each, fun y H' hy hx => ⟨{ b with each := y }, ⟨okb.h, ?_, okb.l, okb.n, okb.k, okb.r, okb.d⟩, rfl, DPut.k (k := .inr "each") hx (by show 6 < sizeLine; decide)⟩⟩
        simp only [each2, List.mem_cons, List.not_mem_nil, or_false] at hy ⊢
        rcases hy with h | h <;> simp [h]
      · refine ⟨l6, b.lifted, ["nothing", "kept"], l69, by decide, by decide, by decide, DGet.k (k := .inr "lifted") g9, fun H' sm => (hf9.kp (Kp.of sm)).lifted, fun y H' hy hx => ⟨{ b with lifted := y }, ⟨okb.h, okb.e, ?_, okb.n, okb.k, okb.r, okb.d⟩, rfl, DPut.k (k := .inr "lifted") hx (by show 6 < sizeLine; decide)⟩⟩
        simp only [lift2, List.mem_cons, List.not_mem_nil, or_false] at hy ⊢
        rcases hy with h | h <;> simp [h]
      · refine ⟨l8, b.ends, ["holder", "never", "scope"], l89, by decide, by decide, by decide, DGet.k (k := .inr "ends") g9, fun H' sm => (hf9.kp (Kp.of sm)).ends, fun y H' hy hx => ⟨{ b with ends := y }, ⟨okb.h, okb.e, okb.l, ?_, okb.k, okb.r, okb.d⟩, rfl, DPut.k (k := .inr "ends") hx (by show 6 < sizeLine; decide)⟩⟩
        simp only [ends3, List.mem_cons, List.not_mem_nil, or_false] at hy ⊢
        rcases hy with h | h | h <;> simp [h]
    refine ⟨_, rfl, _, rfl, _, rfl, g, _, rfl, hg, l, rfl, ⟨_, SqL.of hl⟩, fun D qD => lcl_pure (fun v => !decide (v = .str v0)) id qD (SqL.of hl) (by rw [List.length_map]; exact Nat.le_trans h3 (by decide)) ?_ ?_⟩
    · intro j x H' Q' R hx sm q1 q2
      obtain ⟨y, hy, rfl⟩ := List.mem_map.mp (List.mem_of_getElem? hx)
      refine ⟨rfl, _, rfl, _, rfl, _, rfl, f, _, rfl, hfz H' sm, rfl, _, rfl, ?_⟩
      cases e : !decide (V.str y = V.str v0) with
      | true => exact iteT ⟨_, rfl, q1 e⟩
      | false => exact iteF (q2 e)
    · have ef : (((zs.map V.str).filter (fun v => !decide (v = .str v0))).map id) = (zs.filter fun y => !decide (y = v0)).map V.str := by
        rw [List.map_id, List.filter_map]
        congr 1
        refine List.filter_congr fun y _ => ?_
        show (!decide (V.str y = V.str v0)) = !decide (y = v0)
        rw [show decide (V.str y = V.str v0) = decide (y = v0) from decide_eq_decide.mpr ⟨V.str.inj, congrArg V.str⟩]
      rw [ef]
      have hne : 0 < (zs.filter fun y => !decide (y = v0)).length := by
        match zs, h2, hnd with
        | y1 :: y2 :: r, _, hnd =>
          have h12 : y1 ≠ y2 := fun e => by
            rw [List.nodup_cons] at hnd
            exact hnd.1 (e ▸ List.mem_cons_self)
          by_cases h1 : y1 = v0
          · have : y2 ∈ (y1 :: y2 :: r).filter fun y => !decide (y = v0) := List.mem_filter.mpr ⟨by simp, by simp; exact fun e => h12 (h1.trans e.symm)⟩
            exact List.length_pos_of_mem this
          · have : y1 ∈ (y1 :: y2 :: r).filter fun y => !decide (y = v0) := List.mem_filter.mpr ⟨by simp, by simp [h1]⟩
            exact List.length_pos_of_mem this
      have hle := List.length_filter_le (fun y => !decide (y = v0)) zs
      generalize eu : upd H9 D _ = H11; have s11 := new_s eu qD; have f11 := new_f eu
      have dr11 := dr9.same s11
      refine ⟨n + 1, d, by omega, dr11, .inl ⟨D, _, rfl, SqL.of f11, by rw [List.length_map]; omega, by rw [List.length_map]; omega, fun i2 v2 H12 hi2 sm12 dr12 => ?_⟩⟩
      obtain ⟨y, hy, rfl⟩ := str_at hi2
      have hy2 : y ∈ zs := (List.mem_filter.mp hy).1
      have x12 := (dr11.kp sm12).dK (s11 _ _ x9)
      obtain ⟨b', ok', eb, dp⟩ := hput y H12 hy2 x12
      refine ⟨_, rfl, _, rfl, x3, _, rfl, dp, ?_⟩
      have hp12 := (dr11.kp sm12).lst (s11 _ _ hf9.2)
      have npx : p ≠ x3 := ne_of hp12 x12 (by intro z; cases z)
      refine ⟨_, rfl, k x3 b' _ ok' ⟨upd_same, by rw [upd_ne npx, eb]; exact hp12⟩ (fun c o nc e => ?_) (dr12.put x12 (fun _ z => by cases z))⟩
      have e2 := sm02 c o nc e
      rw [upd_ne (ne_of_none e2 q3)]
      exact sm12 c o nc (s11 _ _ (s29 _ _ e2))
end

end HL

namespace HL
open PySem PySem.Spec PyProof.Rows L2


section
variable {P : Program} {w : World} {K : PySem.W.Frag} {mg : Str → Option Value} {base : Heap}
/-! ### lacks and is_wrong, by place and by name -/
theorem has_lacks (T : Tx K mg) : Has P w K mg base "lacks" 5 ["book", "depth", "stand"] (spLacks K) := by
  obtain ⟨fd, F, ok⟩ := fn_lacks (P := P) (w := w) (base := base) T
  exact has_fn (g_lacks T) F ok (fun _ _ _ _ _ _ us hl => match us, hl with | [_, _, _], _ => rfl)
theorem has_lacksK (T : Tx K mg) : HasKw P w K mg base "lacks" 5 ["book", "depth", "stand"] ["stand", "depth", "book"] [2, 1, 0] (spLacks K) := by
  obtain ⟨fd, F, ok⟩ := fn_lacks (P := P) (w := w) (base := base) T
  exact haskw_of (g_lacks T) F ok (fun _ _ _ _ _ _ ws hl => match ws, hl with | [_, _, _], _ => rfl)
theorem has_wrong (T : Tx K mg) : Has P w K mg base "is_wrong" 6 ["book", "depth", "fault", "stand"] (spWrong K) := by
  obtain ⟨fd, F, ok⟩ := fn_wrong (P := P) (w := w) (base := base) T
  exact has_fn (g_is_wrong T) F ok (fun _ _ _ _ _ _ us hl => match us, hl with | [_, _, _, _], _ => rfl)
theorem has_wrongK (T : Tx K mg) : HasKw P w K mg base "is_wrong" 6 ["book", "depth", "fault", "stand"] ["stand", "fault", "depth", "book"] [3, 2, 1, 0] (spWrong K) := by
  obtain ⟨fd, F, ok⟩ := fn_wrong (P := P) (w := w) (base := base) T
  exact haskw_of (g_is_wrong T) F ok (fun _ _ _ _ _ _ ws hl => match ws, hl with | [_, _, _, _], _ => rfl)
/-! ### what is told -/
open Classical in
noncomputable def lackB (b : Bk) (k : Int) (s : Sd) : Bool := decide (Lack b k s)
open Classical in
noncomputable def badB (b : Bk) (k : Int) (s : Sd) (z : Str) : Bool := decide (Bad b k z s)
theorem lackB_of {b : Bk} {k : Int} {s : Sd} {β : Bool} (h : β = true ↔ Lack b k s) : β = lackB b k s := by
  unfold lackB
  rw [Bool.eq_iff_iff, h, @decide_eq_true_iff _ (Classical.propDecidable _)]
theorem badB_of {b : Bk} {k : Int} {s : Sd} {z : Str} {β : Bool} (h : β = true ↔ Bad b k z s) : β = badB b k s z := by
  unfold badB
  rw [Bool.eq_iff_iff, h, @decide_eq_true_iff _ (Classical.propDecidable _)]
/-- books that are asked alike -/
structure Bk.Like (b c : Bk) : Prop where
  h : b.held = c.held
  e : b.each = c.each
  l : b.lifted = c.lifted
  n : b.ends = c.ends
  r : ∀ z, z ∈ b.bars ↔ z ∈ c.bars
theorem Bk.Like.bar {b c : Bk} (h : b.Like c) (l : Int) (y : Str) (x : Int) : Barred b l y x ↔ Barred c l y x := by
  unfold Barred
  exact exists_congr fun z => and_congr_right fun _ => h.r z
theorem Bk.Like.lack {b c : Bk} (h : b.Like c) (k : Int) (s : Sd) : Lack b k s ↔ Lack c k s := by
  unfold Lack asked
  rw [h.l, h.h, h.e]
  exact and_congr_right fun _ => exists_congr fun y => exists_congr fun x => and_congr_right fun _ => and_congr_right fun _ => and_congr_right fun _ => and_congr_left fun _ => not_congr (h.bar _ _ _)
theorem Bk.Like.bad {b c : Bk} (h : b.Like c) (k : Int) (z : Str) (s : Sd) : Bad b k z s ↔ Bad c k z s := by
  unfold Bad
  rw [h.n]
  by_cases e1 : z = "ended"
  · rw [if_pos e1, if_pos e1]
  · rw [if_neg e1, if_neg e1]
    by_cases e2 : z = "strayed"
    · rw [if_pos e2, if_pos e2]
    · rw [if_neg e2, if_neg e2]
      by_cases e3 : z = "missing"
      · rw [if_pos e3, if_pos e3]
        exact h.lack k s
      · rw [if_neg e3, if_neg e3]
theorem Bk.Like.lackB {b c : Bk} (h : b.Like c) (k : Int) (s : Sd) : lackB b k s = lackB c k s := lackB_of (by unfold HL.lackB; rw [@decide_eq_true_iff _ (Classical.propDecidable _)]; exact h.lack k s)
theorem Bk.Like.badB {b c : Bk} (h : b.Like c) (k : Int) (s : Sd) (z : Str) : badB b k s z = badB c k s z := badB_of (by unfold HL.badB; rw [@decide_eq_true_iff _ (Classical.propDecidable _)]; exact h.bad k z s)
theorem Bk.Like.perm {b : Bk} {ys : List Str} (p : ys.Perm b.bars) : ({ b with bars := ys } : Bk).Like b := ⟨rfl, rfl, rfl, rfl, fun z => p.mem_iff⟩
theorem Bk.Like.wrk {b : Bk} {ys : List Str} {z : Str} (p : ys.Perm b.bars) : ({ b with works := z, bars := ys } : Bk).Like b := ⟨rfl, rfl, rfl, rfl, fun z => p.mem_iff⟩
noncomputable def told (b : Bk) (k : Int) (s : Sd) : List Bool := lackB b k s :: four.map (badB b k s)
theorem Bk.Like.told {b c : Bk} (h : b.Like c) (k : Int) (s : Sd) : told b k s = told c k s := by
  unfold HL.told
  rw [h.lackB, funext (h.badB k s)]
theorem told_five (b : Bk) (k : Int) (s : Sd) : ∃ b1 b2 b3 b4 b5 : Bool, told b k s = [b1, b2, b3, b4, b5] := ⟨_, _, _, _, _, rfl⟩
/-! ### repr of rows of bools -/
theorem dpa_bls {H : Hp} : ∀ bs : List Bool, DpAll K H (bs.map V.bl) (bs.map PyData.bool)
  | [] => .nil
  | b :: r => .cons (.bl b) (dpa_bls r)
theorem show5 : ∀ a b c d e : Bool, (PyData.list ([a, b, c, d, e].map PyData.bool)).showable = true ∧ (PyData.list ([a, b, c, d, e].map PyData.bool)).hasDict = false ∧ (PyData.list ([a, b, c, d, e].map PyData.bool)).depth ≤ 60 ∧ (PyData.list ([a, b, c, d, e].map PyData.bool)).shown.length ≤ sizeLine := by decide +kernel
theorem show3 : ∀ a b c : Bool, (PyData.list ([a, b, c].map PyData.bool)).showable = true ∧ (PyData.list ([a, b, c].map PyData.bool)).hasDict = false ∧ (PyData.list ([a, b, c].map PyData.bool)).depth ≤ 60 ∧ (PyData.list ([a, b, c].map PyData.bool)).shown.length ≤ sizeLine := by decide +kernel
theorem show2 : ∀ a b : Bool, (PyData.list ([a, b].map PyData.bool)).showable = true ∧ (PyData.list ([a, b].map PyData.bool)).hasDict = false ∧ (PyData.list ([a, b].map PyData.bool)).depth ≤ 60 ∧ (PyData.list ([a, b].map PyData.bool)).shown.length ≤ sizeLine := by decide +kernel
def Shows (bs : List Bool) : Prop := (PyData.list (bs.map PyData.bool)).showable = true ∧ (PyData.list (bs.map PyData.bool)).hasDict = false ∧ (PyData.list (bs.map PyData.bool)).depth ≤ 60 ∧ (PyData.list (bs.map PyData.bool)).shown.length ≤ sizeLine
theorem shows_told (b : Bk) (k : Int) (s : Sd) : Shows (told b k s) := by
  obtain ⟨b1, b2, b3, b4, b5, e⟩ := told_five b k s
  rw [e]
  exact show5 b1 b2 b3 b4 b5
theorem repr_bls {H : Hp} {l : Addr} {bs : List Bool} {Q : VK} (h : H l = some (.lst (bs.map V.bl))) (s : Shows bs) (q : Q (.str (PyData.list (bs.map PyData.bool)).shown) H) : rRepr K [.ref l] H Q :=
  ⟨_, _, rfl, .lst (SqL.of h) (dpa_bls bs), s.1, s.2.1, s.2.2.1, s.2.2.2, q⟩
end

end HL

namespace HL
open PySem PySem.Spec PyProof.Rows L2


section
variable {P : Program} {w : World} {K : PySem.W.Frag} {mg : Str → Option Value} {base : Heap}
def spDepths (P : Program) (w : World) (K : PySem.W.Frag) : Sp := fun vs H Q _ => ∃ (n : Nat) (d f p a t : Addr) (b c : Bk) (k0 : Int) (s : Sd), vs = [.ref d, .ref f, .ref a, .ref t] ∧ n + 20 < 1099511627776 ∧ Dr P w n H d ∧ FAt H f p b ∧ b.Ok ∧ BookAt K H a c ∧ c.Ok ∧ c.Like b ∧ H t = some (.tup s.vs) ∧ s.Form k0 ∧
  ∀ H', SmD d H H' → Dr P w (n + 3) H' d → Q (.bl true) H'
theorem has_depths (T : Tx K mg) : HasG P w K mg base "_law_at_all_depths" 7 ["_law_draw", "_law_fields", "_law_mine", "_law_own"] (spDepths P w K) := by
  have h_law_shuffled : Has P w K mg base "_law_shuffled" 3 ["_law_draw", "_law_some"] (spShuffled P w K) := has_shuffled T
  have h_law_is_form : Has P w K mg base "_law_is_form" 2 ["_law_deep", "_law_some"] spFormL := has_formL T
  have h_lacks : Has P w K mg base "lacks" 5 ["book", "depth", "stand"] (spLacks K) := has_lacks T
  have h_is_wrong : Has P w K mg base "is_wrong" 6 ["book", "depth", "fault", "stand"] (spWrong K) := has_wrong T
  have h_law_four : Has P w K mg base "_law_four" 1 [] spFour := has_four T
  have h_law_lacked : Has P w K mg base "_law_lacked" 3 ["_law_fields", "_law_deep", "_law_own"] spLackL := has_lackL T
  have h_law_bad : Has P w K mg base "_law_bad" 4 ["_law_fields", "_law_deep", "_law_word", "_law_own"] spBadL := has_badL T
  refine hasg_of (k := 6) (g_law_at_all_depths T) (d_law_at_all_depths T) sc_law_at_all_depths (fun _ _ _ _ _ _ us hl => match us, hl with | [_, _, _, _], _ => rfl) (fun vs H Q E h => ?_) (fun cdv A outer s H vs Q E gd hr h => ?_)
  · obtain ⟨n, d, f, p, a, t, b, c, k0, s, rfl, _⟩ := h
    rfl
  · obtain ⟨n, d, f, p, a, t, b, c, k0, s, rfl, hn, dr, hf, okb, hb, okc, lk, ht, fm0, k⟩ := h
    have hu := hu_of hr
    refine ⟨_, (pss_cons (ps_for PassesOwn.never rfl (pi_list (pe_has h_law_shuffled (hr.mono (by decide)) rfl (pa_cons (pv 0) (pa_cons (pe_lst (pa_cons pe_int (pa_cons pe_int (pa_cons pe_int pa_nil)))) pa_nil)))) (pg_name (i := 4) sc_law_at_all_depths.nd rfl (Or.inr rfl)) (pss_one (ps_if (pt_val (pe_has h_law_is_form (hr.mono (by decide)) rfl (pa_cons (pv 4) (pa_cons (pv 3) pa_nil)))) (pss_cons (ps_set (i := 5) sc_law_at_all_depths.nd rfl (Or.inl rfl) (pe_op op_cat (pe_lst (pa_cons (pe_has h_lacks (hr.mono (by decide)) rfl (pa_cons (pv 2) (pa_cons (pv 4) (pa_cons (pv 3) pa_nil)))) pa_nil)) (pe_lc (own := [("_law_word", 7)]) (g := gName 7) (tt := tYes) (by rfl) sc_law_at_all_depths.nd (pi_list (pe_has0 h_law_four (hr.mono (by decide)) rfl)) (blkOk_by (own := [("_law_word", 7)]) (N := N_law_at_all_depths) (sc := defScope s_law_at_all_depths) (by decide +kernel)) (fun _ _ _ _ _ => (pg_name (i := 7) sc_law_at_all_depths.nd rfl (Or.inl rfl))) (fun _ _ _ _ _ => pts_nil) (fun _ _ _ _ _ => (pe_has h_is_wrong (hr.mono (by decide)) rfl (pa_cons (pv 2) (pa_cons (pv 4) (pa_cons (pv 7) (pa_cons (pv 3) pa_nil))))))))) (pss_cons (ps_set (i := 6) sc_law_at_all_depths.nd rfl (Or.inl rfl) (pe_op op_cat (pe_lst (pa_cons (pe_has h_law_lacked (hr.mono (by decide)) rfl (pa_cons (pv 1) (pa_cons (pv 4) (pa_cons (pv 3) pa_nil)))) pa_nil)) (pe_lc (own := [("_law_word", 7)]) (g := gName 7) (tt := tYes) (by rfl) sc_law_at_all_depths.nd (pi_list (pe_has0 h_law_four (hr.mono (by decide)) rfl)) (blkOk_by (own := [("_law_word", 7)]) (N := N_law_at_all_depths) (sc := defScope s_law_at_all_depths) (by decide +kernel)) (fun _ _ _ _ _ => (pg_name (i := 7) sc_law_at_all_depths.nd rfl (Or.inl rfl))) (fun _ _ _ _ _ => pts_nil) (fun _ _ _ _ _ => (pe_has h_law_bad (hr.mono (by decide)) rfl (pa_cons (pv 1) (pa_cons (pv 4) (pa_cons (pv 7) (pa_cons (pv 3) pa_nil))))))))) (pss_one (ps_if (pt_cmpR op_ne (pe_callB (call_repr gd hr.units) (by rfl) (m_repr T) boot_repr (pa_cons (pv 5) pa_nil)) (pe_callB (call_repr gd hr.units) (by rfl) (m_repr T) boot_repr (pa_cons (pv 6) pa_nil)) (nomark _)) (pss_one (ps_ret pe_bl)) pss_nil)))) pss_nil))) (pss_one (ps_ret pe_bl))), ?_⟩
    refine ⟨_, rfl, by decide, fun l1 q1 => ?_⟩
    generalize e1 : upd _ _ _ = H1; have s1 := new_s e1 q1; have f1 := new_f e1
    have dr1 := dr.same s1
    refine ⟨n, d, l1, _, rfl, by show n + 3 < _; omega, dr1, SqL.of f1, by decide, fun l ys H2 py ql sm2 dr2 hl => ?_⟩
    have sm02 : SmD d H H2 := (SmD.of s1).trans sm2
    have k02 := dr.kp sm02
    have hf2 := hf.kp k02
    have hb2 := hb.kp k02
    have ht2 := k02.tup ht
    refine ⟨l, rfl, ⟨_, SqL.of hl⟩, for_list (K := K) (a := l) (xs := ys) (fun i σ H' => ∃ o4 o5 o6 o7 : Option V, σ = [some (.ref d), some (.ref f), some (.ref a), some (.ref t), o4, o5, o6, o7] ∧ Same H2 H') ⟨_, _, _, _, rfl, Same.refl _⟩ ?_ ?_ ?_⟩
    · rintro i σ H' _ ⟨_, _, _, _, _, sm⟩
      exact SqL.of (sm _ _ hl)
    · rintro i x σ H3 hx ⟨o4, o5, o6, o7, rfl, sm3⟩
      obtain ⟨kk, rfl, k1, k3⟩ : ∃ kk : Int, x = .int kk ∧ 1 ≤ kk ∧ kk ≤ 3 := by
        have m := py.mem_iff.mp (List.mem_of_getElem? hx)
        simp only [List.mem_cons, List.not_mem_nil, or_false] at m
        rcases m with rfl | rfl | rfl
        all_goals exact ⟨_, rfl, by decide, by decide⟩
      have ht3 := sm3 _ _ ht2
      refine ⟨_, rfl, _, rfl, kk, k0, t, s, rfl, ht3, fm0, fun β H10 s10 hβ => ⟨β, rfl, ite2 (fun eβ => ?_) (fun _ => ⟨_, _, _, _, rfl, sm3.trans s10⟩)⟩⟩
      have fm := hβ eβ
      have ht10 := s10 _ _ ht3
      have hb10 := (hb2.same sm3).same s10
      have hf10 := (hf2.kp (Kp.of sm3)).kp (Kp.of s10)
      refine ⟨_, rfl, _, rfl, _, rfl, a, t, c, kk, s, rfl, hb10, okc, k1, k3, ht10, fm, fun β4 H4 s4 i4 => ?_⟩
      refine ⟨by show 1 ≤ sizeLine; decide, fun l5 q5 => ?_⟩
      generalize e5 : upd _ _ _ = H5; have s5 := new_s e5 q5; have f5 := new_f e5
      refine ⟨rfl, fun l6 q6 => ?_⟩
      generalize e6 : upd _ _ _ = H6; have s6 := new_s e6 q6; have f6 := new_f e6
      have ht6 := s6 _ _ (s5 _ _ (s4 _ _ ht10))
      have hb6 := ((hb10.same s4).same s5).same s6
      refine ⟨l6, rfl, ⟨_, SqL.of f6⟩, fun D7 q7 => lc_list (K := K) (a := l6) (xs := four.map V.str) (fun i H' => H' D7 = some (.lst ((four.take i).map fun z => .bl (badB c kk s z))) ∧ Same H6 H') ⟨upd_same, same_new q7⟩ ?_ ?_ ?_⟩
      · rintro i H' _ ⟨_, sm⟩
        exact SqL.of (sm _ _ f6)
      · rintro i x H' hx ⟨hD, sm⟩
        obtain ⟨z, hz, rfl⟩ := List.mem_map.mp (List.mem_of_getElem? hx)
        have hx2 : four[i]? = some z := by
          rw [List.getElem?_map] at hx
          cases e : four[i]? with
          | none => rw [e] at hx; cases hx
          | some y => rw [e] at hx; cases hx; rfl
        refine ⟨rfl, _, rfl, _, rfl, _, rfl, _, rfl, a, t, c, kk, z, s, rfl, hb6.same sm, okc, k1, k3, hz, sm _ _ ht6, fm, fun β8 H8 s8 i8 => ?_⟩
        have hD8 := s8 _ _ hD
        refine ⟨_, hD8, by rw [List.length_map, List.length_take]; exact Nat.lt_of_le_of_lt (Nat.min_le_right _ _) (by decide), ?_, fun c o e => ?_⟩
        · rw [upd_same, take_succ' hx2, List.map_append, badB_of i8]
          rfl
        · rw [upd_ne (ne_of_none e q7)]
          exact s8 _ _ (sm _ _ e)
      rintro H7 ⟨hD7, s7⟩
      have l57 := s7 _ _ (s6 _ _ f5)
      refine ⟨l5, D7, _, _, rfl, rfl, l57, hD7, by rw [List.length_map]; show 1 + 4 ≤ sizeLine; decide, fun p9 q9 => ?_⟩
      generalize e9 : upd _ _ _ = H9; have s9 := new_s e9 q9; have f9 := new_f e9
      have ft9 : H9 p9 = some (.lst ((told c kk s).map V.bl)) := by
        rw [f9, lackB_of i4]
        rfl
      have s09 := ((((s4.trans s5).trans s6).trans s7).trans s9)
      clear f9 e9 hD7 l57 e5 e6 f5 f6 q5 q6 q7 hb6 ht6 s7 s9
      have ht9 := s09 _ _ ht10
      have hf9 := hf10.kp (Kp.of s09)
      refine ⟨_, rfl, _, rfl, _, rfl, f, p, t, b, kk, s, rfl, hf9, okb, k1, k3, ht9, fun β4 H14 s14 i14 => ?_⟩
      refine ⟨by show 1 ≤ sizeLine; decide, fun l15 q15 => ?_⟩
      generalize e15 : upd _ _ _ = H15; have s15 := new_s e15 q15; have f15 := new_f e15
      refine ⟨rfl, fun l16 q16 => ?_⟩
      generalize e16 : upd _ _ _ = H16; have s16 := new_s e16 q16; have f16 := new_f e16
      have ht16 := s16 _ _ (s15 _ _ (s14 _ _ ht9))
      have hf16 := ((hf9.kp (Kp.of s14)).kp (Kp.of s15)).kp (Kp.of s16)
      refine ⟨l16, rfl, ⟨_, SqL.of f16⟩, fun D17 q17 => lc_list (K := K) (a := l16) (xs := four.map V.str) (fun i H' => H' D17 = some (.lst ((four.take i).map fun z => .bl (badB b kk s z))) ∧ Same H16 H') ⟨upd_same, same_new q17⟩ ?_ ?_ ?_⟩
      · rintro i H' _ ⟨_, sm⟩
        exact SqL.of (sm _ _ f16)
      · rintro i x H' hx ⟨hD, sm⟩
        obtain ⟨z, hz, rfl⟩ := List.mem_map.mp (List.mem_of_getElem? hx)
        have hx2 : four[i]? = some z := by
          rw [List.getElem?_map] at hx
          cases e : four[i]? with
          | none => rw [e] at hx; cases hx
          | some y => rw [e] at hx; cases hx; rfl
        refine ⟨rfl, _, rfl, _, rfl, _, rfl, _, rfl, f, p, t, b, kk, z, s, rfl, hf16.kp (Kp.of sm), okb, k1, k3, sm _ _ ht16, fm, fun β8 H8 s8 i8 => ?_⟩
        have hD8 := s8 _ _ hD
        refine ⟨_, hD8, by rw [List.length_map, List.length_take]; exact Nat.lt_of_le_of_lt (Nat.min_le_right _ _) (by decide), ?_, fun c o e => ?_⟩
        · rw [upd_same, take_succ' hx2, List.map_append, badB_of i8]
          rfl
        · rw [upd_ne (ne_of_none e q17)]
          exact s8 _ _ (sm _ _ e)
      rintro H17 ⟨hD17, s17⟩
      have l517 := s17 _ _ (s16 _ _ f15)
      refine ⟨l15, D17, _, _, rfl, rfl, l517, hD17, by rw [List.length_map]; show 1 + 4 ≤ sizeLine; decide, fun p19 q19 => ?_⟩
      generalize e19 : upd _ _ _ = H19; have s19 := new_s e19 q19; have f19 := new_f e19
      have ft19 : H19 p19 = some (.lst ((told b kk s).map V.bl)) := by
        rw [f19, lackB_of i14]
        rfl
      have s919 := ((((s14.trans s15).trans s16).trans s17).trans s19)
      clear f19 e19 hD17 l517 e15 e16 f15 f16 q15 q16 q17 hf16 ht16 s17 s19
      have ft9' := s919 _ _ ft9
      refine ⟨_, rfl, _, _, rfl, .lst (SqL.of ft9') (dpa_bls _), (shows_told _ _ _).1, (shows_told _ _ _).2.1, (shows_told _ _ _).2.2.1, (shows_told _ _ _).2.2.2, _, rfl, _, _, rfl, .lst (SqL.of ft19) (dpa_bls _), (shows_told _ _ _).1, (shows_told _ _ _).2.1, (shows_told _ _ _).2.2.1, (shows_told _ _ _).2.2.2, rfl, _, rfl, ?_⟩
      rw [lk.told]
      show if (!decide (V.str (PyData.list ((told b kk s).map PyData.bool)).shown = V.str (PyData.list ((told b kk s).map PyData.bool)).shown)) = true then _ else _
      rw [decide_eq_true rfl]
      refine iteF ?_
      exact ⟨_, _, _, _, rfl, ((sm3.trans s10).trans s09).trans s919⟩
    · rintro σ H3 ⟨o4, o5, o6, o7, rfl, sm3⟩
      exact k H3 (sm02.sm sm3) (dr2.same sm3)
end

end HL

namespace HL
open PySem PySem.Spec PyProof.Rows L2


section
variable {P : Program} {w : World} {K : PySem.W.Frag} {mg : Str → Option Value} {base : Heap}
def spTwo (P : Program) (w : World) : Sp := fun vs H Q _ => ∃ (n : Nat) (d f p t : Addr) (b : Bk) (kk : Int) (s : Sd), vs = [.ref d, .ref f, .int kk, .ref t] ∧ n + 20 < 1099511627776 ∧ Dr P w n H d ∧ FAt H f p b ∧ b.Ok ∧ 1 ≤ kk ∧ kk ≤ 3 ∧ H t = some (.tup s.vs) ∧ s.Form kk ∧
  ∀ H', SmD d H H' → Dr P w (n + 2) H' d → Q (.bl true) H'
theorem has_two (T : Tx K mg) : HasG P w K mg base "_law_by_two_books" 7 ["_law_draw", "_law_fields", "_law_deep", "_law_own"] (spTwo P w) := by
  have h_law_other_fields : Has P w K mg base "_law_other_fields" 4 ["_law_draw", "_law_fields"] (spOther P w) := has_other T
  have h_law_book : Has P w K mg base "_law_book" 5 ["_law_fields"] (spBook K) := has_book T
  have h_lacks : Has P w K mg base "lacks" 5 ["book", "depth", "stand"] (spLacks K) := has_lacks T
  have h_is_wrong : Has P w K mg base "is_wrong" 6 ["book", "depth", "fault", "stand"] (spWrong K) := has_wrong T
  have h_law_four : Has P w K mg base "_law_four" 1 [] spFour := has_four T
  have h_law_lacked : Has P w K mg base "_law_lacked" 3 ["_law_fields", "_law_deep", "_law_own"] spLackL := has_lackL T
  have h_law_bad : Has P w K mg base "_law_bad" 4 ["_law_fields", "_law_deep", "_law_word", "_law_own"] spBadL := has_badL T
  refine hasg_of (k := 6) (g_law_by_two_books T) (d_law_by_two_books T) sc_law_by_two_books (fun _ _ _ _ _ _ us hl => match us, hl with | [_, _, _, _], _ => rfl) (fun vs H Q E h => ?_) (fun cdv A outer s H vs Q E gd hr h => ?_)
  · obtain ⟨n, d, f, p, t, b, kk, s, rfl, _⟩ := h
    rfl
  · obtain ⟨n, d, f0, p0, t, b0, kk, s, rfl, hn, dr, hf0, ok0, k1, k3, ht, fm, k⟩ := h
    have hu := hu_of hr
    refine ⟨_, (pss_cons (ps_set (i := 4) sc_law_by_two_books.nd rfl (Or.inl rfl) (pe_has h_law_other_fields (hr.mono (by decide)) rfl (pa_cons (pv 0) (pa_cons (pv 1) pa_nil)))) (pss_cons (ps_for PassesOwn.never rfl (pi_list (pe_lst (pa_cons (pv 1) (pa_cons (pv 4) (pa_cons (pv 1) pa_nil))))) (pg_name (i := 5) sc_law_by_two_books.nd rfl (Or.inr rfl)) (pss_cons (ps_set (i := 6) sc_law_by_two_books.nd rfl (Or.inr rfl) (pe_has h_law_book (hr.mono (by decide)) rfl (pa_cons (pv 5) pa_nil))) (pss_cons (ps_set (i := 7) sc_law_by_two_books.nd rfl (Or.inl rfl) (pe_op op_cat (pe_lst (pa_cons (pe_has h_lacks (hr.mono (by decide)) rfl (pa_cons (pv 6) (pa_cons (pv 2) (pa_cons (pv 3) pa_nil)))) pa_nil)) (pe_lc (own := [("_law_word", 9)]) (g := gName 9) (tt := tYes) (by rfl) sc_law_by_two_books.nd (pi_list (pe_has0 h_law_four (hr.mono (by decide)) rfl)) (blkOk_by (own := [("_law_word", 9)]) (N := N_law_by_two_books) (sc := defScope s_law_by_two_books) (by decide +kernel)) (fun _ _ _ _ _ => (pg_name (i := 9) sc_law_by_two_books.nd rfl (Or.inl rfl))) (fun _ _ _ _ _ => pts_nil) (fun _ _ _ _ _ => (pe_has h_is_wrong (hr.mono (by decide)) rfl (pa_cons (pv 6) (pa_cons (pv 2) (pa_cons (pv 9) (pa_cons (pv 3) pa_nil))))))))) (pss_cons (ps_set (i := 8) sc_law_by_two_books.nd rfl (Or.inl rfl) (pe_op op_cat (pe_lst (pa_cons (pe_has h_law_lacked (hr.mono (by decide)) rfl (pa_cons (pv 5) (pa_cons (pv 2) (pa_cons (pv 3) pa_nil)))) pa_nil)) (pe_lc (own := [("_law_word", 9)]) (g := gName 9) (tt := tYes) (by rfl) sc_law_by_two_books.nd (pi_list (pe_has0 h_law_four (hr.mono (by decide)) rfl)) (blkOk_by (own := [("_law_word", 9)]) (N := N_law_by_two_books) (sc := defScope s_law_by_two_books) (by decide +kernel)) (fun _ _ _ _ _ => (pg_name (i := 9) sc_law_by_two_books.nd rfl (Or.inl rfl))) (fun _ _ _ _ _ => pts_nil) (fun _ _ _ _ _ => (pe_has h_law_bad (hr.mono (by decide)) rfl (pa_cons (pv 5) (pa_cons (pv 2) (pa_cons (pv 9) (pa_cons (pv 3) pa_nil))))))))) (pss_one (ps_if (pt_cmpR op_ne (pe_callB (call_repr gd hr.units) (by rfl) (m_repr T) boot_repr (pa_cons (pv 7) pa_nil)) (pe_callB (call_repr gd hr.units) (by rfl) (m_repr T) boot_repr (pa_cons (pv 8) pa_nil)) (nomark _)) (pss_one (ps_ret pe_bl)) pss_nil)))))) (pss_one (ps_ret pe_bl)))), ?_⟩
    refine ⟨_, rfl, _, rfl, n, d, f0, p0, b0, rfl, hn, dr, hf0, ok0, fun f1 b1 H1 ok1 hf1 sm1 dr1 => ?_⟩
    have hf01 := hf0.kp (dr.kp sm1)
    have ht1 := (dr.kp sm1).tup ht
    refine ⟨_, rfl, _, rfl, _, rfl, by show 3 ≤ sizeLine; decide, fun l2 q2 => ?_⟩
    generalize e2 : upd _ _ _ = H2; have s2 := new_s e2 q2; have f2 := new_f e2
    have sm02 : SmD d H H2 := sm1.sm s2
    have hfa := hf01.kp (Kp.of s2)
    have hfb := hf1.kp (Kp.of s2)
    have ht2 := s2 _ _ ht1
    obtain ⟨xs, hl, hxs⟩ : ∃ xs : List V, H2 l2 = some (.lst xs) ∧ ∀ x ∈ xs, ∃ (f p : Addr) (b : Bk), x = .ref f ∧ FAt H2 f p b ∧ b.Ok := by
      refine ⟨_, f2, fun x hx => ?_⟩
      simp only [List.mem_cons, List.not_mem_nil, or_false] at hx
      rcases hx with rfl | rfl | rfl
      · exact ⟨f0, p0, b0, rfl, hfa, ok0⟩
      · exact ⟨f1, p0, b1, rfl, hfb, ok1⟩
      · exact ⟨f0, p0, b0, rfl, hfa, ok0⟩
    clear f2
    refine ⟨l2, rfl, ⟨_, SqL.of hl⟩, for_list (K := K) (a := l2) (xs := xs) (fun i σ H' => ∃ o5 o6 o7 o8 o9 : Option V, σ = [some (.ref d), some (.ref f0), some (.int kk), some (.ref t), some (.ref f1), o5, o6, o7, o8, o9] ∧ Same H2 H') ⟨_, _, _, _, _, rfl, Same.refl _⟩ ?_ ?_ ?_⟩
    · rintro i σ H' _ ⟨_, _, _, _, _, _, sm⟩
      exact SqL.of (sm _ _ hl)
    · rintro i x σ H3 hx ⟨o5, o6, o7, o8, o9, rfl, sm3⟩
      obtain ⟨f, p, b, rfl, hf2, okb⟩ := hxs x (List.mem_of_getElem? hx)
      have ht3 := sm3 _ _ ht2
      have hf3 := hf2.kp (Kp.of sm3)
      refine ⟨_, rfl, f, p, b, rfl, hf3, okb, fun a ys H10 s10 qa py gd10 hb10 => ?_⟩
      have okc := gd10.ok
      have lk := Bk.Like.perm py
      have ht10 := s10 _ _ ht3
      have hf10 := hf3.kp (Kp.of s10)
      generalize ({ b with bars := ys } : Bk) = c at *
      refine ⟨_, rfl, _, rfl, _, rfl, a, t, c, kk, s, rfl, hb10, okc, k1, k3, ht10, fm, fun β4 H4 s4 i4 => ?_⟩
      refine ⟨by show 1 ≤ sizeLine; decide, fun l5 q5 => ?_⟩
      generalize e5 : upd _ _ _ = H5; have s5 := new_s e5 q5; have f5 := new_f e5
      refine ⟨rfl, fun l6 q6 => ?_⟩
      generalize e6 : upd _ _ _ = H6; have s6 := new_s e6 q6; have f6 := new_f e6
      have ht6 := s6 _ _ (s5 _ _ (s4 _ _ ht10))
      have hb6 := ((hb10.same s4).same s5).same s6
      refine ⟨l6, rfl, ⟨_, SqL.of f6⟩, fun D7 q7 => lc_list (K := K) (a := l6) (xs := four.map V.str) (fun i H' => H' D7 = some (.lst ((four.take i).map fun z => .bl (badB c kk s z))) ∧ Same H6 H') ⟨upd_same, same_new q7⟩ ?_ ?_ ?_⟩
      · rintro i H' _ ⟨_, sm⟩
        exact SqL.of (sm _ _ f6)
      · rintro i x H' hx ⟨hD, sm⟩
        obtain ⟨z, hz, rfl⟩ := List.mem_map.mp (List.mem_of_getElem? hx)
        have hx2 : four[i]? = some z := by
          rw [List.getElem?_map] at hx
          cases e : four[i]? with
          | none => rw [e] at hx; cases hx
          | some y => rw [e] at hx; cases hx; rfl
        refine ⟨rfl, _, rfl, _, rfl, _, rfl, _, rfl, a, t, c, kk, z, s, rfl, hb6.same sm, okc, k1, k3, hz, sm _ _ ht6, fm, fun β8 H8 s8 i8 => ?_⟩
        have hD8 := s8 _ _ hD
        refine ⟨_, hD8, by rw [List.length_map, List.length_take]; exact Nat.lt_of_le_of_lt (Nat.min_le_right _ _) (by decide), ?_, fun c o e => ?_⟩
        · rw [upd_same, take_succ' hx2, List.map_append, badB_of i8]
          rfl
        · rw [upd_ne (ne_of_none e q7)]
          exact s8 _ _ (sm _ _ e)
      rintro H7 ⟨hD7, s7⟩
      have l57 := s7 _ _ (s6 _ _ f5)
      refine ⟨l5, D7, _, _, rfl, rfl, l57, hD7, by rw [List.length_map]; show 1 + 4 ≤ sizeLine; decide, fun p9 q9 => ?_⟩
      generalize e9 : upd _ _ _ = H9; have s9 := new_s e9 q9; have f9 := new_f e9
      have ft9 : H9 p9 = some (.lst ((told c kk s).map V.bl)) := by
        rw [f9, lackB_of i4]
        rfl
      have s09 := ((((s4.trans s5).trans s6).trans s7).trans s9)
      clear f9 e9 hD7 l57 e5 e6 f5 f6 q5 q6 q7 hb6 ht6 s7 s9
      have ht9 := s09 _ _ ht10
      have hf9 := hf10.kp (Kp.of s09)
      refine ⟨_, rfl, _, rfl, _, rfl, f, p, t, b, kk, s, rfl, hf9, okb, k1, k3, ht9, fun β4 H14 s14 i14 => ?_⟩
      refine ⟨by show 1 ≤ sizeLine; decide, fun l15 q15 => ?_⟩
      generalize e15 : upd _ _ _ = H15; have s15 := new_s e15 q15; have f15 := new_f e15
      refine ⟨rfl, fun l16 q16 => ?_⟩
      generalize e16 : upd _ _ _ = H16; have s16 := new_s e16 q16; have f16 := new_f e16
      have ht16 := s16 _ _ (s15 _ _ (s14 _ _ ht9))
      have hf16 := ((hf9.kp (Kp.of s14)).kp (Kp.of s15)).kp (Kp.of s16)
      refine ⟨l16, rfl, ⟨_, SqL.of f16⟩, fun D17 q17 => lc_list (K := K) (a := l16) (xs := four.map V.str) (fun i H' => H' D17 = some (.lst ((four.take i).map fun z => .bl (badB b kk s z))) ∧ Same H16 H') ⟨upd_same, same_new q17⟩ ?_ ?_ ?_⟩
      · rintro i H' _ ⟨_, sm⟩
        exact SqL.of (sm _ _ f16)
      · rintro i x H' hx ⟨hD, sm⟩
        obtain ⟨z, hz, rfl⟩ := List.mem_map.mp (List.mem_of_getElem? hx)
        have hx2 : four[i]? = some z := by
          rw [List.getElem?_map] at hx
          cases e : four[i]? with
          | none => rw [e] at hx; cases hx
          | some y => rw [e] at hx; cases hx; rfl
        refine ⟨rfl, _, rfl, _, rfl, _, rfl, _, rfl, f, p, t, b, kk, z, s, rfl, hf16.kp (Kp.of sm), okb, k1, k3, sm _ _ ht16, fm, fun β8 H8 s8 i8 => ?_⟩
        have hD8 := s8 _ _ hD
        refine ⟨_, hD8, by rw [List.length_map, List.length_take]; exact Nat.lt_of_le_of_lt (Nat.min_le_right _ _) (by decide), ?_, fun c o e => ?_⟩
        · rw [upd_same, take_succ' hx2, List.map_append, badB_of i8]
          rfl
        · rw [upd_ne (ne_of_none e q17)]
          exact s8 _ _ (sm _ _ e)
      rintro H17 ⟨hD17, s17⟩
      have l517 := s17 _ _ (s16 _ _ f15)
      refine ⟨l15, D17, _, _, rfl, rfl, l517, hD17, by rw [List.length_map]; show 1 + 4 ≤ sizeLine; decide, fun p19 q19 => ?_⟩
      generalize e19 : upd _ _ _ = H19; have s19 := new_s e19 q19; have f19 := new_f e19
      have ft19 : H19 p19 = some (.lst ((told b kk s).map V.bl)) := by
        rw [f19, lackB_of i14]
        rfl
      have s919 := ((((s14.trans s15).trans s16).trans s17).trans s19)
      clear f19 e19 hD17 l517 e15 e16 f15 f16 q15 q16 q17 hf16 ht16 s17 s19
      have ft9' := s919 _ _ ft9
      refine ⟨_, rfl, _, _, rfl, .lst (SqL.of ft9') (dpa_bls _), (shows_told _ _ _).1, (shows_told _ _ _).2.1, (shows_told _ _ _).2.2.1, (shows_told _ _ _).2.2.2, _, rfl, _, _, rfl, .lst (SqL.of ft19) (dpa_bls _), (shows_told _ _ _).1, (shows_told _ _ _).2.1, (shows_told _ _ _).2.2.1, (shows_told _ _ _).2.2.2, rfl, _, rfl, ?_⟩
      rw [lk.told]
      show if (!decide (V.str (PyData.list ((told b kk s).map PyData.bool)).shown = V.str (PyData.list ((told b kk s).map PyData.bool)).shown)) = true then _ else _
      rw [decide_eq_true rfl]
      refine iteF ?_
      exact ⟨_, _, _, _, _, rfl, ((sm3.trans s10).trans s09).trans s919⟩
    · rintro σ H3 ⟨o5, o6, o7, o8, o9, rfl, sm3⟩
      exact k H3 (sm02.sm sm3) ((dr1.same s2).same sm3)
end

end HL

namespace HL
open PySem PySem.Spec PyProof.Rows L2


section
variable {P : Program} {w : World} {K : PySem.W.Frag} {mg : Str → Option Value} {base : Heap}
def spLaw (K : PySem.W.Frag) : Sp := fun vs H Q _ => ∃ (a : Addr) (ns : List Int), vs = [.ref a] ∧ SqL K H a (ns.map V.int) ∧ ns.length ≤ 63 ∧ ∀ H', Q (.bl true) H'
theorem fn_law (T : Tx K mg) {fd : FuncData} (F : FunD K "law" "law" (defArgs s_law) (defBody s_law) (defScope s_law) (dd_law.dvs K) (dd_law.kws K) (gAt "law" K) fd) : FnG P w K mg base CX0 8 (gAt "law" K) fd ["_law_script"] (spLaw K) := by
  have h_law_begun : Has P w K mg base "_law_begun" 1 ["_law_script"] (spBegun P w K) := has_begun T
  have h_law_take : Has P w K mg base "_law_take" 2 ["_law_draw", "_law_size"] (spTake P w) := has_take T
  have h_law_pick : Has P w K mg base "_law_pick" 3 ["_law_draw", "_law_some"] (spPick P w K) := has_pick T
  have h_law_shuffled : Has P w K mg base "_law_shuffled" 3 ["_law_draw", "_law_some"] (spShuffled P w K) := has_shuffled T
  have h_law_drawn_fields : Has P w K mg base "_law_drawn_fields" 4 ["_law_draw"] (spDrawn P w) := has_drawn T
  have h_law_barred : Has P w K mg base "_law_barred" 4 ["_law_draw", "_law_fields"] (spBarred P w) := has_barred T
  have h_law_book : Has P w K mg base "_law_book" 5 ["_law_fields"] (spBook K) := has_book T
  have h_law_any_one : Has P w K mg base "_law_any_one" 4 ["_law_draw", "_law_deep"] (spOne P w) := has_one T
  have h_law_at_all_depths : HasG P w K mg base "_law_at_all_depths" 7 ["_law_draw", "_law_fields", "_law_mine", "_law_own"] (spDepths P w K) := has_depths T
  have h_law_by_two_books : HasG P w K mg base "_law_by_two_books" 7 ["_law_draw", "_law_fields", "_law_deep", "_law_own"] (spTwo P w) := has_two T
  have h_lacks : Has P w K mg base "lacks" 5 ["book", "depth", "stand"] (spLacks K) := has_lacks T
  have hk_lacks : HasKw P w K mg base "lacks" 5 ["book", "depth", "stand"] ["stand", "depth", "book"] [2, 1, 0] (spLacks K) := has_lacksK T
  have h_is_wrong : Has P w K mg base "is_wrong" 6 ["book", "depth", "fault", "stand"] (spWrong K) := has_wrong T
  have hk_is_wrong : HasKw P w K mg base "is_wrong" 6 ["book", "depth", "fault", "stand"] ["stand", "fault", "depth", "book"] [3, 2, 1, 0] (spWrong K) := has_wrongK T
  have h_law_four : Has P w K mg base "_law_four" 1 [] spFour := has_four T
  have h_law_lacked : Has P w K mg base "_law_lacked" 3 ["_law_fields", "_law_deep", "_law_own"] spLackL := has_lackL T
  have h_law_bad : Has P w K mg base "_law_bad" 4 ["_law_fields", "_law_deep", "_law_word", "_law_own"] spBadL := has_badL T
  refine okG (k := 7) F sc_law (fun vs H Q E h => ?_) (fun cdv A outer s H vs Q E gd hr h => ?_)
  · obtain ⟨a, ns, rfl, _⟩ := h
    rfl
  · obtain ⟨a, ns, rfl, hS, hlen, k⟩ := h
    have hu := hu_of hr
    refine ⟨_, (pss_cons (ps_set (i := 1) sc_law.nd rfl (Or.inl rfl) (pe_has h_law_begun (hr.mono (by decide)) rfl (pa_cons (pv 0) pa_nil))) (pss_cons (ps_for PassesOwn.never rfl (pi_range1 (by rfl) (m_range T) (pa_cons (pe_op op_add pe_int (pe_callB (call_min2 rfl) (by rfl) (m_min T) boot_min (pa_cons (pe_callB call_len_seq (by rfl) (m_len T) boot_len (pa_cons (pv 0) pa_nil)) (pa_cons pe_int pa_nil)))) pa_nil)) (pg_name (i := 2) sc_law.nd rfl (Or.inl rfl)) (pss_cons (ps_par (i := 3) (j := 4) (by rfl) sc_law.nd rfl rfl (by decide) rfl rfl (pa_cons (pe_has h_law_barred (hr.mono (by decide)) rfl (pa_cons (pv 1) (pa_cons (pe_has h_law_drawn_fields (hr.mono (by decide)) rfl (pa_cons (pv 1) pa_nil)) pa_nil))) (pa_cons (pe_op op_add pe_int (pe_has h_law_take (hr.mono (by decide)) rfl (pa_cons (pv 1) (pa_cons pe_int pa_nil)))) pa_nil)) (by rfl)) (pss_cons (ps_set (i := 5) sc_law.nd rfl (Or.inl rfl) (pe_callTy call_dictD (by rfl) (m_dict T) boot_dict (pa_cons (pv 3) pa_nil))) (pss_cons (ps_dput hu (pv 5) pe_str (pe_has h_law_pick (hr.mono (by decide)) rfl (pa_cons (pv 1) (pa_cons (pe_lst (pa_cons pe_str (pa_cons pe_str (pa_cons pe_str pa_nil)))) pa_nil))) rfl) (pss_cons (ps_par (i := 6) (j := 7) (by rfl) sc_law.nd rfl rfl (by decide) rfl rfl (pa_cons (pe_has h_law_book (hr.mono (by decide)) rfl (pa_cons (pv 3) pa_nil)) (pa_cons (pe_has h_law_book (hr.mono (by decide)) rfl (pa_cons (pv 5) pa_nil)) pa_nil)) (by rfl)) (pss_one (ps_for PassesOwn.never rfl (pi_range1 (by rfl) (m_range T) (pa_cons pe_int pa_nil)) (pg_name (i := 8) sc_law.nd rfl (Or.inl rfl)) (pss_cons (ps_set (i := 9) sc_law.nd rfl (Or.inl rfl) (pe_has h_law_any_one (hr.mono (by decide)) rfl (pa_cons (pv 1) (pa_cons (pv 4) pa_nil)))) (pss_cons (ps_if (PW.pt (pw_or (pt_not (pt_val (pe_hasg gd h_law_at_all_depths (hr.mono (by decide)) rfl (pa_cons (pv 1) (pa_cons (pv 3) (pa_cons (pv 6) (pa_cons (pv 9) pa_nil))))))) (pw_or1 (pt_not (pt_val (pe_hasg gd h_law_by_two_books (hr.mono (by decide)) rfl (pa_cons (pv 1) (pa_cons (pv 3) (pa_cons (pv 4) (pa_cons (pv 9) pa_nil)))))))))) (pss_one (ps_ret pe_bl)) pss_nil) (pss_cons (ps_set (i := 10) sc_law.nd rfl (Or.inl rfl) (pe_has h_law_lacked (hr.mono (by decide)) rfl (pa_cons (pv 3) (pa_cons (pv 4) (pa_cons (pv 9) pa_nil))))) (pss_cons (ps_if (pt_cmpR op_ne (pe_callB (call_repr gd hr.units) (by rfl) (m_repr T) boot_repr (pa_cons (pe_lst (pa_cons (pe_has h_lacks (hr.mono (by decide)) rfl (pa_cons (pv 6) (pa_cons (pv 4) (pa_cons (pv 9) pa_nil)))) (pa_cons (pe_hasKw hk_lacks (hr.mono (by decide)) rfl (pk_cons (pv 9) (pk_cons (pv 4) (pk_cons (pv 6) pk_nil)))) pa_nil))) pa_nil)) (pe_callB (call_repr gd hr.units) (by rfl) (m_repr T) boot_repr (pa_cons (pe_lst (pa_cons (pv 10) (pa_cons (pv 10) pa_nil))) pa_nil)) (nomark _)) (pss_one (ps_ret pe_bl)) pss_nil) (pss_one (ps_for PassesOwn.never rfl (pi_list (pe_has h_law_shuffled (hr.mono (by decide)) rfl (pa_cons (pv 1) (pa_cons (pe_has0 h_law_four (hr.mono (by decide)) rfl) pa_nil)))) (pg_name (i := 11) sc_law.nd rfl (Or.inl rfl)) (pss_cons (ps_set (i := 10) sc_law.nd rfl (Or.inl rfl) (pe_has h_law_bad (hr.mono (by decide)) rfl (pa_cons (pv 3) (pa_cons (pv 4) (pa_cons (pv 11) (pa_cons (pv 9) pa_nil)))))) (pss_cons (ps_set (i := 12) sc_law.nd rfl (Or.inl rfl) (pe_lst (pa_cons (pe_has h_is_wrong (hr.mono (by decide)) rfl (pa_cons (pv 6) (pa_cons (pv 4) (pa_cons (pv 11) (pa_cons (pv 9) pa_nil))))) (pa_cons (pe_has h_is_wrong (hr.mono (by decide)) rfl (pa_cons (pv 7) (pa_cons (pv 4) (pa_cons (pv 11) (pa_cons (pv 9) pa_nil))))) pa_nil)))) (pss_cons (ps_expr (pe_bm PySem.F.plainAttrs_list PySem.F.slot_list_append PySem.F.type_list_append mt_append (pv 12) (pa_cons (pe_hasKw hk_is_wrong (hr.mono (by decide)) rfl (pk_cons (pv 9) (pk_cons (pv 11) (pk_cons (pv 4) (pk_cons (pv 6) pk_nil))))) pa_nil))) (pss_one (ps_if (pt_cmpR op_ne (pe_callB (call_repr gd hr.units) (by rfl) (m_repr T) boot_repr (pa_cons (pv 12) pa_nil)) (pe_callB (call_repr gd hr.units) (by rfl) (m_repr T) boot_repr (pa_cons (pe_op op_rep (pe_lst (pa_cons (pv 10) pa_nil)) pe_int) pa_nil)) (nomark _)) (pss_one (ps_ret pe_bl)) pss_nil)))))))))))))))))) (pss_one (ps_ret pe_bl)))), ?_⟩
    refine ⟨_, rfl, a, ns, rfl, hS, hlen, fun d H1 s1 qd dr => ?_⟩
    have hS1 := s1.seq hS
    obtain ⟨m, em, hm⟩ : ∃ m : Nat, (4 : Int) + (if (16 : Int) < (((ns.map V.int).length : Nat) : Int) then (16 : Int) else (((ns.map V.int).length : Nat) : Int)) = (m : Int) ∧ m ≤ 20 := by
      by_cases h : (16 : Int) < ((ns.map V.int).length : Nat)
      · rw [if_pos h]
        exact ⟨20, rfl, Nat.le_refl _⟩
      · rw [if_neg h]
        exact ⟨4 + (ns.map V.int).length, by omega, by omega⟩
    refine ⟨_, rfl, a, _, rfl, .inl hS1, _, _, rfl, _, _, rfl, rfl, (m : Int), congrArg (fun z => [V.int z]) em, ?_⟩
    refine ⟨by omega, by omega, ?_⟩
    rw [show Int.toNat (m : Int) = m from Int.toNat_natCast m]
    refine for_range (fun i σ H' => ∃ o2 o3 o4 o5 o6 o7 o8 o9 o10 o11 o12 : Option V, σ = [some (.ref a), some (.ref d), o2, o3, o4, o5, o6, o7, o8, o9, o10, o11, o12] ∧ Dr P w (110 * i) H' d) ⟨_, _, _, _, _, _, _, _, _, _, _, rfl, dr⟩ ?_ ?_
    · rintro i σ H2 hi ⟨o2, o3, o4, o5, o6, o7, o8, o9, o10, o11, o12, rfl, dr2⟩
      refine ⟨_, rfl, _, rfl, 110 * i, d, rfl, by omega, dr2, fun f0 p0 b0 H3 ok0 e0 hf3 sm3 dr3 qf qp => ?_⟩
      refine ⟨110 * i + 5, d, f0, p0, b0, rfl, by omega, dr3, hf3, ok0, fun f p b H4 okb hf4 sm4 dr4 qf4 qp4 => ?_⟩
      refine ⟨_, rfl, 110 * i + 12, d, 3, rfl, by decide, by decide, by omega, dr4, fun k0 H5 a0 a1 sm5 dr5 => ?_⟩
      refine ⟨_, _, rfl, rfl, _, _, rfl, ?_⟩
      have k1 : 1 ≤ 1 + k0 := by omega
      have k3 : 1 + k0 ≤ 3 := by omega
      have hf5 := hf4.kp (dr4.kp sm5)
      refine ⟨_, rfl, f, _, rfl, .inl hf5.1, fun x6 q6 => ?_⟩
      generalize e6 : upd _ _ _ = H6; have s6 := new_s e6 q6; have f6 := new_f e6
      refine ⟨_, rfl, by decide, fun l7 q7 => ?_⟩
      generalize e7 : upd _ _ _ = H7; have s7 := new_s e7 q7; have f7 := new_f e7
      have dr7 := (dr5.same s6).same s7
      refine ⟨110 * i + 13, d, by omega, dr7, .inl ⟨l7, _, rfl, SqL.of f7, by decide, by decide, fun j v H8 hj sm8 dr8 => ?_⟩⟩
      obtain ⟨z, hz, rfl⟩ := str_at (zs := ["own", "same", "wait"]) hj
      have k58 : Kp H5 H8 := ((Kp.of s6).trans (Kp.of s7)).trans (dr7.kp sm8)
      have x68 := (dr7.kp sm8).dK (s7 _ _ f6)
      have hf8 := hf5.kp k58
      refine ⟨_, rfl, x6, _, rfl, DPut.k (k := .inr "works") x68 (by show 6 < sizeLine; decide), ?_⟩
      generalize e9 : upd H8 x6 _ = H9
      have nfx : f ≠ x6 := ne_of_none hf5.1 q6
      have npx : p ≠ x6 := ne_of_none hf5.2 q6
      have hf9 : FAt H9 f p b := by
        rw [← e9]
        exact ⟨by rw [upd_ne nfx]; exact hf8.1, by rw [upd_ne npx]; exact hf8.2⟩
      have hg9 : FAt H9 x6 p { b with works := z } := ⟨new_f e9, hf9.2⟩
      have dr9 : Dr P w (110 * i + 14) H9 d := by
        rw [← e9]
        exact dr8.put x68 (fun _ z => by cases z)
      have okg : ({ b with works := z } : Bk).Ok := ⟨okb.h, okb.e, okb.l, okb.n, by
        simp only [List.mem_cons, List.not_mem_nil, or_false] at hz
        simp only [work3, List.mem_cons, List.not_mem_nil, or_false]
        rcases hz with h | h | h <;> simp [h], okb.r, okb.d⟩
      clear e9 x68 hf8 k58
      refine ⟨_, rfl, f, p, b, rfl, hf9, okb, fun mi ym H10 s10 qm pym gdm hm10 => ?_⟩
      have hg10 := hg9.kp (Kp.of s10)
      refine ⟨_, rfl, x6, p, _, rfl, hg10, okg, fun ne yn H11 s11 qn pyn gdn hn11 => ⟨_, _, rfl, ?_⟩⟩
      have hm11 := hm10.same s11
      have hf11 := (hf9.kp (Kp.of s10)).kp (Kp.of s11)
      have dr11 := (dr9.same s10).same s11
      have lkm := Bk.Like.perm pym
      have lkn : ({ b with works := z, bars := yn } : Bk).Like b := Bk.Like.wrk pyn
      have okm := gdm.ok
      have okn := gdn.ok
      generalize ({ b with bars := ym } : Bk) = bm at *
      generalize ({ b with works := z, bars := yn } : Bk) = bn at *
      refine ⟨6, rfl, by decide, by decide, ?_⟩
      show ∃ W : Nat → Nat → L2.St → Hp → Prop, _
      refine for_range (n := 6) (fun j σ H' => ∃ o8 o9 o10 o11 o12 : Option V, σ = [some (.ref a), some (.ref d), some (.int (0 + i)), some (.ref f), some (.int (1 + k0)), some (.ref x6), some (.ref mi), some (.ref ne), o8, o9, o10, o11, o12] ∧ SmD d H11 H' ∧ Dr P w (110 * i + 14 + 15 * j) H' d) ⟨_, _, _, _, _, rfl, SmD.refl, dr11⟩ ?_ ?_
      · rintro j σ H12 hj ⟨o8, o9, o10, o11, o12, rfl, sm12, dr12⟩
        have k12 := dr11.kp sm12
        refine ⟨_, rfl, _, rfl, 110 * i + 14 + 15 * j, d, 1 + k0, rfl, by omega, dr12, k1, k3, fun t sd H13 fm ht13 sm13 dr13 => ?_⟩
        have sm113 := sm12.trans sm13
        have k113 := dr11.kp sm113
        have hf13 := hf11.kp k113
        have hm13 := hm11.kp k113
        have hn13 := hn11.kp k113
        refine ⟨_, rfl, _, rfl, _, rfl, _, rfl, 110 * i + 14 + 15 * j + 6, d, f, p, mi, t, b, bm, 1 + k0, sd, rfl, by omega, dr13, hf13, okb, hm13, okm, lkm, ht13, fm, fun H14 sm14 dr14 => ⟨true, rfl, iteF ?_⟩⟩
        have k14 := dr13.kp sm14
        have hf14 := hf13.kp k14
        have ht14 := k14.tup ht13
        refine ⟨_, rfl, _, rfl, _, rfl, _, rfl, 110 * i + 14 + 15 * j + 9, d, f, p, t, b, 1 + k0, sd, rfl, by omega, dr14, hf14, okb, k1, k3, ht14, fm, fun H15 sm15 dr15 => ⟨true, rfl, iteF ?_⟩⟩
        have k15 := dr14.kp sm15
        have hf15 := hf14.kp k15
        have ht15 := k15.tup ht14
        have hm15 := (hm13.kp k14).kp k15
        have hn15 := (hn13.kp k14).kp k15
        have sm115 := (sm113.trans sm14).trans sm15
        clear hf13 hf14 hm13 hn13 ht13 ht14
        refine ⟨_, rfl, _, rfl, _, rfl, f, p, t, b, 1 + k0, sd, rfl, hf15, okb, k1, k3, ht15, fun β16 H16 s16 i16 => ?_⟩
        obtain rfl := lackB_of i16
        have hm16 := hm15.same s16
        have ht16 := s16 _ _ ht15
        refine ⟨_, rfl, _, rfl, _, rfl, mi, t, bm, 1 + k0, sd, rfl, hm16, okm, k1, k3, ht16, fm, fun β17 H17 s17 i17 => ?_⟩
        obtain rfl := lackB_of i17
        have hm17 := hm16.same s17
        have ht17 := s17 _ _ ht16
        refine ⟨_, rfl, _, rfl, _, rfl, rfl, mi, t, bm, 1 + k0, sd, rfl, hm17, okm, k1, k3, ht17, fm, fun β18 H18 s18 i18 => ?_⟩
        obtain rfl := lackB_of i18
        refine ⟨by show 2 ≤ sizeLine; decide, fun l19 q19 => ?_⟩
        generalize e19 : upd _ _ _ = H19; have s19 := new_s e19 q19; have f19 := new_f e19
        have v19 := show2 (lackB bm (1 + k0) sd) (lackB bm (1 + k0) sd)
        refine ⟨_, _, rfl, .lst (SqL.of f19) (dpa_bls [lackB bm (1 + k0) sd, lackB bm (1 + k0) sd]), v19.1, v19.2.1, v19.2.2.1, v19.2.2.2, ?_⟩
        refine ⟨_, rfl, _, rfl, by show 2 ≤ sizeLine; decide, fun l20 q20 => ?_⟩
        generalize e20 : upd _ _ _ = H20; have s20 := new_s e20 q20; have f20 := new_f e20
        have v20 := show2 (lackB b (1 + k0) sd) (lackB b (1 + k0) sd)
        refine ⟨_, _, rfl, .lst (SqL.of f20) (dpa_bls [lackB b (1 + k0) sd, lackB b (1 + k0) sd]), v20.1, v20.2.1, v20.2.2.1, v20.2.2.2, rfl, _, rfl, ?_⟩
        rw [lkm.lackB, decide_eq_true rfl]
        refine iteF ?_
        have s1520 : Same H15 H20 := (((s16.trans s17).trans s18).trans s19).trans s20
        have hf20 := hf15.kp (Kp.of s1520)
        have hm20 := hm15.same s1520
        have hn20 := hn15.same s1520
        have ht20 := s1520 _ _ ht15
        have dr20 := dr15.same s1520
        have sm120 := sm115.sm s1520
        clear v19 v20 f19 f20 e19 e20 hm16 hm17 ht16 ht17
        refine ⟨_, rfl, rfl, fun l21 q21 => ?_⟩
        generalize e21 : upd _ _ _ = H21; have s21 := new_s e21 q21; have f21 := new_f e21
        have dr21 := dr20.same s21
        refine ⟨110 * i + 14 + 15 * j + 11, d, l21, _, rfl, by show _ + 4 < _; omega, dr21, SqL.of f21, by decide, fun l22 ys H22 py ql sm22 dr22 hl22 => ?_⟩
        have k2022 : Kp H20 H22 := (Kp.of s21).trans (dr21.kp sm22)
        have hf22 := hf20.kp k2022
        have hm22 := hm20.kp k2022
        have hn22 := hn20.kp k2022
        have ht22 := k2022.tup ht20
        have sm122 := (sm120.sm s21).trans sm22
        refine ⟨l22, rfl, ⟨_, SqL.of hl22⟩, for_list (K := K) (a := l22) (xs := ys) (fun y σ H' => ∃ o10 o11 o12 : Option V, σ = [some (.ref a), some (.ref d), some (.int (0 + i)), some (.ref f), some (.int (1 + k0)), some (.ref x6), some (.ref mi), some (.ref ne), some (.int (0 + j)), some (.ref t), o10, o11, o12] ∧ Same H22 H') ⟨_, _, _, rfl, Same.refl _⟩ ?_ ?_ ?_⟩
        · rintro y σ H' _ ⟨_, _, _, _, sm⟩
          exact SqL.of (sm _ _ hl22)
        · rintro y x σ H23 hx ⟨o10, o11, o12, rfl, sm23⟩
          obtain ⟨zw, hzw, rfl⟩ := List.mem_map.mp (py.mem_iff.mp (List.mem_of_getElem? hx))
          have hf23 := hf22.kp (Kp.of sm23)
          have ht23 := sm23 _ _ ht22
          refine ⟨_, rfl, _, rfl, _, rfl, _, rfl, f, p, t, b, 1 + k0, zw, sd, rfl, hf23, okb, k1, k3, ht23, fm, fun β24 H24 s24 i24 => ?_⟩
          obtain rfl := badB_of i24
          have hm24 := (hm22.same sm23).same s24
          have ht24 := s24 _ _ ht23
          refine ⟨_, rfl, _, rfl, _, rfl, _, rfl, mi, t, bm, 1 + k0, zw, sd, rfl, hm24, okm, k1, k3, hzw, ht24, fm, fun β25 H25 s25 i25 => ?_⟩
          obtain rfl := badB_of i25
          have hn25 := ((hn22.same sm23).same s24).same s25
          have ht25 := s25 _ _ ht24
          refine ⟨_, rfl, _, rfl, _, rfl, _, rfl, ne, t, bn, 1 + k0, zw, sd, rfl, hn25, okn, k1, k3, hzw, ht25, fm, fun β26 H26 s26 i26 => ?_⟩
          obtain rfl := badB_of i26
          refine ⟨by show 2 ≤ sizeLine; decide, fun l27 q27 => ?_⟩
          generalize e27 : upd _ _ _ = H27; have s27 := new_s e27 q27; have f27 := new_f e27
          have hm27 := ((hm24.same s25).same s26).same s27
          have ht27 := s27 _ _ (s26 _ _ ht25)
          refine ⟨_, rfl, .inl ⟨rfl, _, SqL.of f27⟩, _, rfl, _, rfl, _, rfl, _, rfl, rfl, mi, t, bm, 1 + k0, zw, sd, rfl, hm27, okm, k1, k3, hzw, ht27, fm, fun β28 H28 s28 i28 => ?_⟩
          obtain rfl := badB_of i28
          refine ⟨l27, _, _, rfl, rfl, s28 _ _ f27, by show 2 < sizeLine; decide, ?_⟩
          generalize e29 : upd H28 l27 _ = H29
          have f29 : H29 l27 = some (.lst ([badB bm (1 + k0) sd zw, badB bn (1 + k0) sd zw, badB bm (1 + k0) sd zw].map V.bl)) := new_f e29
          have s2229 : Same H22 H29 := fun c o e => by
            have e26 := s26 _ _ (s25 _ _ (s24 _ _ (sm23 _ _ e)))
            rw [← e29, upd_ne (ne_of_none e26 q27)]
            exact s28 _ _ (s27 _ _ e26)
          clear e29 f27
          have v29 := show3 (badB bm (1 + k0) sd zw) (badB bn (1 + k0) sd zw) (badB bm (1 + k0) sd zw)
          refine ⟨_, rfl, _, _, rfl, .lst (SqL.of f29) (dpa_bls _), v29.1, v29.2.1, v29.2.2.1, v29.2.2.2, ?_⟩
          refine ⟨_, rfl, by show 1 ≤ sizeLine; decide, fun l30 q30 => ?_⟩
          generalize e30 : upd _ _ _ = H30; have s30 := new_s e30 q30; have f30 := new_f e30
          refine ⟨l30, 3, _, rfl, rfl, f30, by decide, by decide, by show 1 * 3 ≤ sizeLine; decide, fun l31 q31 => ?_⟩
          generalize e31 : upd _ _ _ = H31; have s31 := new_s e31 q31; have f31 := new_f e31
          have f31 : H31 l31 = some (.lst ([badB b (1 + k0) sd zw, badB b (1 + k0) sd zw, badB b (1 + k0) sd zw].map V.bl)) := f31
          have v31 := show3 (badB b (1 + k0) sd zw) (badB b (1 + k0) sd zw) (badB b (1 + k0) sd zw)
          refine ⟨_, _, rfl, .lst (SqL.of f31) (dpa_bls _), v31.1, v31.2.1, v31.2.2.1, v31.2.2.2, rfl, _, rfl, ?_⟩
          rw [lkm.badB, lkn.badB, decide_eq_true rfl]
          exact iteF ⟨_, _, _, rfl, (s2229.trans s30).trans s31⟩
        · rintro σ H23 ⟨o10, o11, o12, rfl, sm23⟩
          exact ⟨_, _, _, _, _, rfl, sm122.sm sm23, (dr22.same sm23).mono (by show _ + 4 ≤ _; omega)⟩
      · rintro σ H12 ⟨o8, o9, o10, o11, o12, rfl, sm12, dr12⟩
        exact ⟨_, _, _, _, _, _, _, _, _, _, _, rfl, dr12.mono (by omega)⟩
    · rintro σ H2 ⟨o2, o3, o4, o5, o6, o7, o8, o9, o10, o11, o12, rfl, dr2⟩
      exact k _
end

end HL

open PySem PySem.W PySem.Calls PyProof.Rows
theorem PySem.Challenge.cw_heldlives_k33_lacking_and_wrong_stands_holds : PySem.Challenge.rw_heldlives_k33_lacking_and_wrong_stands.Holds := by
  w_on; o_law
  refine HandSHeadRun.head_any (r := OpenLaw.row PySem.Challenge.rw_heldlives_k33_lacking_and_wrong_stands) (q := view (OpenLaw.row PySem.Challenge.rw_heldlives_k33_lacking_and_wrong_stands).prog [62]) (H := HL.hk) (ob := HL.ob) (M := 8000) (loose := HL.loose) (d := HandSHeadRun.topDef (OpenLaw.row PySem.Challenge.rw_heldlives_k33_lacking_and_wrong_stands).prog 62) (kwd := []) HL.ob_eq
    (by kernel_rfl) (fun s => by kernel_rfl) HL.run (by kernel_rfl) (by kernel_rfl) (by kernel_rfl) (by rfl) (by first | assumption | decide +kernel) (by decide +kernel) ⟨rfl, rfl, rfl, rfl, rfl, by decide +kernel⟩ ?hw ?hc
  case hw => w_witness2
  case hc =>
    refine HL.walkG (l := PySem.Challenge.rw_heldlives_k33_lacking_and_wrong_stands) (n := 63) (k := 8) (x := "_law_script") (cx := fun _ => L2.CX0) rfl (by decide) (by kernel_rfl) ⟨rfl, by decide, by decide⟩ ?F (fun _ _ _ _ _ z => z)
    intro w mg fa h Y G hmg0
    obtain ⟨K, KX, c⟩ := Y
    have hmg : mg ("law" : PySem.Str) = some (.ref fa) := by
      have e : (HandSHeadRun.topDef (OpenLaw.row PySem.Challenge.rw_heldlives_k33_lacking_and_wrong_stands).prog 62).name = ("law" : PySem.Str) := by kernel_rfl
      rw [← e]
      exact hmg0
    have T : HL.Tx K mg := ⟨w, h, c, KX, G⟩
    obtain ⟨fd, F⟩ := HL.d_law T
    have ef := hmg.symm.trans (HL.g_law T)
    cases ef
    have b := L2.FunD.bindsA (ps := ["_law_script"]) F fun _ _ _ _ _ _ us hl => match us, hl with | [_], _ => rfl
    refine ⟨K, KX, fd, [], HL.spLaw K, (fun p hp => by cases hp), (fun p hp => by cases hp), (fun p hp => by cases hp), fun s u => b s [u] rfl, fun H a ns hl _ _ hS => ⟨a, ns, rfl, hS, hl, fun _ => rfl⟩, fun base _ _ _ => ?_⟩
    exact HL.fn_law (P := (PySem.Challenge.rw_heldlives_k33_lacking_and_wrong_stands).prog) (w := w) (base := base) T F
