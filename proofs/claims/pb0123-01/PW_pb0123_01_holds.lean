import PyProof.Rows.All
import Wide.All
import KE.KBytesWalk
import KE.KIntText
import KE.KNestM
import KE.KNest
import KE.KLam
import KE.KPop
import KE.KSortAsk
import KE.KSortKey
import KE.KSortTup
import KE.KxBytes
import KE.KBytesCut
import KE.BitLaws
import KE.BytesMake
import OpenK.KWith
import OpenK.KLine
import Wide.FinOn
import PyProof.Rows.EqNone
import KE.KLcPair
import KE.KEqDict
import PyProof.NeData
import KE.KSlice
import PySem.Challenge.RW_pb0123_01
open PySem PySem.W PySem.Spec PySem.Calls PyProof.Rows
set_option Elab.async false
set_option maxRecDepth 100000
set_option linter.unusedVariables false
namespace Mine
-- H0
section
/-- a code that holds no bytearray -/
noncomputable def okC : Code → Bool
  | .builtin id _ => !Builtin.Bytes.decodersThatHold.contains id && id != "bytearray.__contains__" && id != "bytearray.__mod__" && id != "bytearray.__rmod__" && id != "_struct.pack_into.held" && id != "bytearray.find.held"
  | _ => true
noncomputable def Cl (Γ : PySem.Ctx) : Prop := okC Γ.code = true ∧ ∀ x ∈ Γ.below, okC x.1 = true

/-- as wpAny, where no code of the stack holds a bytearray, and nothing is raised -/
noncomputable def wpC {α : Type} (M : Model) (A : Around) (t : Sem α) (Q : α → Shared → Prop) (s : Shared) : Prop :=
  ∀ Γ p, Γ.In A → Cl Γ → Sem.wp M Γ t (fun a _ s' => Q a s') (fun _ _ _ => False) p s
noncomputable def codeC (M : Model) (A : Around) (c : Code) (R : Flow → Shared → Prop) (s : Shared) : Prop :=
  ∀ Γ p, Γ.code = c → Γ.Below A → Cl Γ → wpCode M Γ (fun r s' => match r with | .ok f => R f s' | .error _ => False) p s

namespace C
section
variable {α β : Type} {M : Model} {A : Around} {s : Shared}
theorem any {t : Sem α} {Q : α → Shared → Prop} (h : wpAny M A t Q (fun _ _ => False) s) : wpC M A t Q s := fun Γ p hΓ _ => h Γ p hΓ
theorem mono {t : Sem α} {Q Q' : α → Shared → Prop} (h : wpC M A t Q s) (hQ : ∀ a s, Q a s → Q' a s) : wpC M A t Q' s :=
  fun Γ p hΓ hc => Sem.wp_mono M Γ t (fun a _ s => hQ a s) (fun _ _ _ x => x) p s (h Γ p hΓ hc)
theorem clEnter {Γ : PySem.Ctx} (h : Cl Γ) {c : Code} {hd : Option Value} {p : Pos} (hc : okC c = true) : Cl (Γ.enter c hd p) :=
  ⟨hc, fun x hx => by
    have hx : x ∈ (Γ.code, p) :: Γ.below := hx
    rcases List.mem_cons.mp hx with rfl | hx
    · exact h.1
    · exact h.2 x hx⟩
theorem runV {c : Code} {Q : Value → Shared → Prop} (hc : codeC M A c (fun f s' => match f with | .ret v => Q v s' | _ => False) s) (ok : okC c = true := by rfl) : wpC M A (runValue c) Q s := fun Γ p hΓ hcl => by
  rw [Sem.wp_runValue]
  refine wpCode_mono (fun r s' h => ?_) (hc _ p rfl (hΓ.enter c none p (by intro x; cases x)) (clEnter hcl ok))
  rcases r with e | (v | _ | _ | _) <;> exact h
theorem call' {f : Value} {pos : List Value} {kw : List (Str × Value)} {Q : Value → Shared → Prop} (hc : codeC M A (.call f ⟨pos, kw⟩) (fun f s' => match f with | .ret v => Q v s' | _ => False) s) : wpC M A (call f pos kw) Q s := runV hc
end
end C

noncomputable def okS (st : List (Code × Pos)) : Bool := st.all fun x => okC x.1
/-- x where the stack holds no bytearray, y elsewhere -/
noncomputable def guarded {α : Type} (x : Sem α) (y : α) : Sem α := do
  let st ← stack
  if okS st = true then x else pure y
theorem guarded_wp {α : Type} {M : Model} {A : Around} {x : Sem α} {y : α} {Q : α → Shared → Prop} {E : Value → Shared → Prop} {s : Shared}
    (h : ∀ Γ p, Γ.In A → Cl Γ → Sem.wp M Γ x (fun a _ s' => Q a s') (fun e _ s' => E e s') p s) (hy : Q y s) : wpAny M A (guarded x y) Q E s := fun Γ p hΓ => by
  unfold guarded
  rw [Sem.wp_bind']
  show Sem.wp M Γ (if okS ((Γ.code, p) :: Γ.below) = true then x else pure y) _ _ p s
  by_cases q : okS ((Γ.code, p) :: Γ.below) = true
  · rw [if_pos q]
    rw [okS, List.all_cons, Bool.and_eq_true] at q
    exact h Γ p hΓ ⟨q.1, fun z hz => List.all_eq_true.mp q.2 z hz⟩
  · rw [if_neg q]
    exact hy
theorem guarded_split {α : Type} {M : Model} {A : Around} {x : Sem α} {y : α} {Q : α → Shared → Prop} {E : Value → Shared → Prop} {s : Shared} (h : wpAny M A (guarded x y) Q E s) (Γ : PySem.Ctx) (p : Pos) (hΓ : Γ.In A) :
    if okS ((Γ.code, p) :: Γ.below) = true then Sem.wp M Γ x (fun a _ s' => Q a s') (fun e _ s' => E e s') p s else Q y s := by
  have := h Γ p hΓ
  unfold guarded at this
  rw [Sem.wp_bind'] at this
  have this : Sem.wp M Γ (if okS ((Γ.code, p) :: Γ.below) = true then x else pure y) _ _ p s := this
  split
  · rename_i q; rw [if_pos q] at this; exact this
  · rename_i q; rw [if_neg q] at this; exact this

theorem sched_guarded {prog : Program} {w : World} {s : Shared} (hz : s.asleep) {x : Sem Fin} {y : Fin} {n : Nat} {o : Outcome} {s' : Shared}
    (h : schedN (denote table) prog w n (.single s ⟨guarded x y, .builtin "claim.caller" {}, default, []⟩) = .halted o s') :
    ∃ n, schedN (denote table) prog w n (.single s ⟨x, .builtin "claim.caller" {}, default, []⟩) = .halted o s' := by
  cases n with
  | zero => cases h
  | succ n =>
    refine ⟨n, ?_⟩
    have e : step (denote table) prog w s ⟨guarded x y, .builtin "claim.caller" {}, default, []⟩ = .go s ⟨x, .builtin "claim.caller" {}, default, []⟩ := by
      have q : okS [(.builtin "claim.caller" {}, default)] = true := by decide +kernel
      obtain ⟨h1, h2, h3, h4, h5⟩ := s
      show Step.go _ ⟨(if okS [(.builtin "claim.caller" {}, default)] = true then x else pure y), _, _, _⟩ = _
      rw [if_pos q]
    rcases sstep_single (denote table) prog w s ⟨guarded x y, .builtin "claim.caller" {}, default, []⟩ (by rfl) hz with q | q
    · simp only [schedN, q, e] at h
      exact h
    · rw [e] at q; cases q

theorem unguard {c : ClaimW} {tree : List Value → Sem Fin} {y : Fin} {defs kps : List Str} {wr : Bool}
    (H : c.HoldsOpenBy (fun vs => ⟨guarded (tree vs) y, .builtin "claim.caller" {}, default, []⟩) defs kps wr) : c.HoldsOpenBy (fun vs => ⟨tree vs, .builtin "claim.caller" {}, default, []⟩) defs kps wr := by
  obtain ⟨a, b, H⟩ := H
  refine ⟨a, b, fun w => ⟨(H w).1, fun s hs => ?_⟩⟩
  obtain ⟨s₀, h1, h2, s₁, h3, h4, h5, h6, hc⟩ := (H w).2 s hs
  refine ⟨s₀, h1, h2, s₁, h3, h4, h5, h6, fun args hp hl ord ho => ?_⟩
  obtain ⟨vs, s₂, l, n, o, s', hr, rest⟩ := hc args hp hl ord ho
  have hz : s.asleep := AfterImport.life hs
  have z0 : s₀.asleep := Shared.asleep_of_life (fence_lifeW h1) hz
  have z1 : s₁.asleep := Shared.asleep_of_life h3.2.1 z0
  have z2 : s₂.asleep := Shared.asleep_of_life (layAllW_rest _ _ _ l).2.2.2 z1
  obtain ⟨n, hr⟩ := sched_guarded z2 hr
  exact ⟨vs, s₂, l, n, o, s', hr, rest⟩

/-- what is to be shown of the law: that it would do to return True at once, and the walk -/
noncomputable abbrev WalkOC (q : Program) (loose : List Str) (XP : (Str → Option Value) → Heap → Prop) (YP : World → Heap → Prop) (r : RowW) (d : DefRec) (kwd : List (Str × Expr)) : Prop :=
  ∀ (w : World) (s₀ s₁ : Shared) (mg mb : Str → Option Value), Ground q loose r.records XP w s₀ mg mb s₁.heap → YP w s₁.heap → ∀ (a : Addr) (o : Obj) (pm cd doc dV kV : Value), s₁.heap.get? a = some o →
    o.data = .func { docDef d.name d.params d.body d.scope pm cd doc with defaults := dV, kwdefaults := kV } → s₁.heap.CodeRec cd d.name → Dflts mg s₁.heap d.params kwd dV kV → mg d.name = some (.ref a) → s₁.gens = #[] →
    ∀ (args : List WData) (vals : List Value) (as : List Addr), r.claim.pre args = true → WData.layableAll args = true → ReadsAllW r.records (classAt s₀.heap) s₁.heap vals args as → WellAll w.params s₁.heap vals args → (∀ a ∈ as, (a == sysModules) = false) →
      GoodWG r.claim (classAt s₀.heap) (ExcName.means s₀.heap) args s₁ (.ok (.ret (.bool true))) s₁ ∧
      codeC (model r.prog w) callerA (.call (.ref a) ⟨vals, []⟩) (fun f s' => match f with | .ret v => GoodWG r.claim (classAt s₀.heap) (ExcName.means s₀.heap) args s₁ (.ok (.ret v)) s' | _ => False) s₁

theorem PySem.W.holds_open {r : OpenRow} {q : Program} {loose : List Str} {Xt : Shared → Bool} {XP : (Str → Option Value) → Heap → Prop} {α : Type} {Yf : Shared → α} {Ya : World → α} {YP : World → Heap → Prop} {d : DefRec} {kwd : List (Str × Expr)} {N : Nat}
    (left : LeftO r.prog q loose Xt Yf Ya N) (hY : ∀ w s, Yf s = Ya w → YP w s.heap) (hYk : ∀ w h h', YP w h → (∀ b o, h.get? b = some o → h'.get? b = some o) → YP w h')
    (hX : ∀ s, Xt s = true → XP (s.heap.nsMap mainGlobals) s.heap) (hXk : ∀ mg h h', XP mg h → (∀ b o, h.get? b = some o → h'.get? b = some o) → XP mg h')
    (hdef : defOf q r.name = some (d, kwd)) (hp : r.prog.theDef r.name = some (d.params, d.body, d.scope)) (hk : kwWritten? d.params.kwonlyargs d.params.kw_defaults = some kwd) (hRf : ∀ s, Xt s = true → RecFacts r.records s.heap) (hwr : (!r.writes || r.records.isEmpty) = true)
    (k1 : r.wellSaid = true) (ok : (chainsOk q && opensWell r.prog && (frees r.toRowW && r.within.isEmpty)) = true) (hb : r.prog.bare) (hw : r.toRowW.promised)
    (walk : WalkOC q loose XP YP r.toRowW d kwd) : r.Holds := by
  refine ⟨k1, hw, unguard (y := .done (.ret (.bool true))) (tree := fun vs => do match ← nsGet mainNs r.name with
      | some f => do ret (← PySem.call f vs)
      | none => unsupported "claim.caller:no-such-global") (open_anyG (r := r.toRowW) (run := fun f vs => guarded (PySem.call f vs) (.bool true)) left hY hYk hX hXk hRf hwr ok hb hw (fun vs w s mg f Q E hg hf h => ?_) (fun w s hg G n hn => ?_) fun w s₀ s₁ mg mb G Y args vs as hpre hlay L low => ?_)⟩
  · intro Γ p hΓ
    have z := guarded_split h Γ p hΓ
    unfold guarded
    rw [Sem.wp_bind']
    show Sem.wp _ Γ (if okS ((Γ.code, p) :: Γ.below) = true then _ else _) _ _ p s
    split at z
    · rename_i q
      rw [if_pos q, Sem.wp_bind']
      refine Eq.mpr (Sem.wp_nsGet (model r.prog w) Γ _ p s hg r.name _) ?_
      rw [hf]
      show Sem.wp _ Γ (PySem.call f vs >>= fun v => ret v) _ _ p s
      rw [Sem.wp_bind']
      exact z
    · rename_i q
      rw [if_neg q]
      exact z
  · obtain rfl : n = r.name := by split at hn <;> simp_all
    exact pinned_of_view hg G hdef hp hk
  · obtain ⟨a, o, pm, cd, doc, dV, kV, h1, h2, h3, h4, h5⟩ := G.fn hdef
    obtain ⟨z1, z2⟩ := walk w s₀ s₁ mg mb G Y a o pm cd doc dV kV h2 h3 h4 h5 (defOf_name hdef ▸ h1) L.gens args vs as hpre hlay L.reads L.well (L.low low)
    refine ⟨.ref a, h1, guarded_wp (fun Γ p hΓ hc => ?_) z1⟩
    exact Sem.wp_mono _ _ _ (fun _ _ _ q => q) (fun _ _ _ q => q.elim) _ _ (C.call' (kw := []) z2 Γ p hΓ hc)
end
-- Z0
section
set_option maxHeartbeats 0
noncomputable def Tie (_ : Prop) : Prop := True
noncomputable def Tied (_ P : Prop) : Prop := P
structure Two (T : Prop) : Prop where
  one : Tied T PySem.Challenge.rw_pb0123_01.row.Holds → PySem.Challenge.rw_pb0123_01.row.Holds
namespace Z0
theorem PySem.W.holds_open {r : OpenRow} {q : Program} {loose : List Str} {Xt : Shared → Bool} {XP : (Str → Option Value) → Heap → Prop} {α : Type} {Yf : Shared → α} {Ya : World → α} {YP : World → Heap → Prop} {d : DefRec} {kwd : List (Str × Expr)} {N : Nat}
    (left : True) (hY : ∀ w s, Yf s = Ya w → YP w s.heap) (hYk : ∀ w h h', YP w h → (∀ b o, h.get? b = some o → h'.get? b = some o) → YP w h')
    (hX : ∀ s, Xt s = true → XP (s.heap.nsMap mainGlobals) s.heap) (hXk : ∀ mg h h', XP mg h → (∀ b o, h.get? b = some o → h'.get? b = some o) → XP mg h')
    (hdef : defOf q r.name = some (d, kwd)) (hp : r.prog.theDef r.name = some (d.params, d.body, d.scope)) (hk : kwWritten? d.params.kwonlyargs d.params.kw_defaults = some kwd) (hRf : ∀ s, Xt s = true → RecFacts r.records s.heap) (hwr : (!r.writes || r.records.isEmpty) = true)
    (k1 : Tied (WalkOC q loose XP YP r.toRowW d kwd) r.Holds) (ok : True) (hb : r.prog.bare) (hw : True)
    (walk : Tie (WalkOC q loose XP YP r.toRowW d kwd)) : r.Holds := k1
theorem pre {X : Prop} (_ : True) (x : X) : X := x
noncomputable def A : PSigma Two := by
  refine' ⟨_, ⟨fun h => ?_⟩⟩
  rotate_left
  refine pre ?hl ?_
  exact trivial
  w_on
  k_head
  case hw => trivial
  exact (trivial : Tie _)

end Z0
end
-- B0
section
noncomputable abbrev KK (w : World) : Frag := Z0.A.heap_1 w.params

/-- all of g stands in h as it is -/
noncomputable def Sub (g h : Heap) : Prop := ∀ b o, g.get? b = some o → h.get? b = some o
theorem Sub.rfl {g : Heap} : Sub g g := fun _ _ e => e
theorem Sub.trans {a b c : Heap} (x : Sub a b) (y : Sub b c) : Sub a c := fun _ _ e => y _ _ (x _ _ e)

/-- what the walk knows of the text, in a part of the heap -/
structure Cx (w : World) (mg mb : Str → Option Value) (p : Program) (loose : List Str) (g : Heap) : Prop where
  X : (KK w).In g
  T : TopRead p loose mg mb g
theorem Cx.sub {w : World} {mg mb : Str → Option Value} {p : Program} {loose : List Str} {g g' : Heap} (C : Cx w mg mb p loose g) (s : Sub g g') : Cx w mg mb p loose g' := ⟨C.X.keeps s, C.T.keeps s⟩

/-- the frozen part g of h, and the objects that may turn -/
structure Own (g h : Heap) (mu : List (Addr × Obj)) : Prop where
  keep : Sub g h
  mem : ∀ p ∈ mu, h.get? p.1 = some p.2 ∧ g.get? p.1 = none
  nd : (mu.map (·.1)).Nodup

structure Step (S : List Addr) (g h g' h' : Heap) : Prop where
  sub : Sub g g'
  old : ∀ b, b < h.objs.size → g'.get? b = g.get? b
  frame : ∀ b o, h.get? b = some o → b ∉ S → h'.get? b = some o
  size : h.objs.size ≤ h'.objs.size

structure St (gE hE : Heap) (S : List Addr) (g : Heap) (L : Addr) (m : Str → Option Value) (mu : List (Addr × Obj)) (h : Heap) : Prop where
  own : Own g h mu
  step : Step S gE hE g h
  ns : h.Ns L m
  gl : g.get? L = none
  lo : hE.objs.size ≤ L
  ml : ∀ p ∈ mu, p.1 ≠ L ∧ (p.1 ∈ S ∨ hE.objs.size ≤ p.1)

theorem Step.refl {S : List Addr} {g h : Heap} : Step S g h g h := ⟨Sub.rfl, fun _ _ => rfl, fun _ _ e _ => e, Nat.le_refl _⟩

section
variable {gE hE g h h' : Heap} {S : List Addr} {L : Addr} {m m' : Str → Option Value} {mu : List (Addr × Obj)}

theorem St.set (st : St gE hE S g L m mu h) (hn : h'.Ns L m') (hs : Heap.SameBut L h h') : St gE hE S g L m' mu h' := by
  refine ⟨⟨fun b o e => ?_, fun p hp => ⟨?_, (st.own.mem p hp).2⟩, st.own.nd⟩, ⟨st.step.sub, st.step.old, fun b o e n => ?_, by rw [hs.1]; exact st.step.size⟩, hn, st.gl, st.lo, st.ml⟩
  · have : b ≠ L := fun q => by rw [q, st.gl] at e; cases e
    exact (hs.2 b this).trans (st.own.keep b o e)
  · exact (hs.2 _ (st.ml p hp).1).trans (st.own.mem p hp).1
  · have : b ≠ L := fun q => by
      have h1 := Heap.lt_size e
      rw [q] at h1
      exact absurd h1 (Nat.not_lt.mpr st.lo)
    exact (hs.2 b this).trans (st.step.frame b o e n)

/-- growth alone -/
theorem St.grow (st : St gE hE S g L m mu h) (k : Sub h h') (sz : h.objs.size ≤ h'.objs.size) : St gE hE S g L m mu h' :=
  ⟨⟨st.own.keep.trans k, fun p hp => ⟨k _ _ (st.own.mem p hp).1, (st.own.mem p hp).2⟩, st.own.nd⟩, ⟨st.step.sub, st.step.old, fun b o e n => k _ _ (st.step.frame b o e n), Nat.le_trans st.step.size sz⟩, st.ns.keeps k, st.gl, st.lo, st.ml⟩

theorem set_map_fst {l : List (Addr × Obj)} {i : Nat} {d : Addr} {o o' : Obj} (hi : l[i]? = some (d, o)) : (l.set i (d, o')).map (·.1) = l.map (·.1) := by
  rw [List.map_set]
  apply List.ext_getElem?
  intro j
  rw [List.getElem?_set]
  split
  · rename_i e
    subst e
    simp only [List.length_map]
    split
    · simp [hi]
    · rename_i q
      rw [List.getElem?_eq_none (by simpa using Nat.not_lt.mp q)]
  · rfl

/-- one of the objects that may turn has turned -/
theorem St.upd (st : St gE hE S g L m mu h) (i : Nat) {d : Addr} {o o' : Obj} (hi : mu[i]? = some (d, o)) (hs : Heap.SameBut d h h') (ho : h'.get? d = some o') : St gE hE S g L m (mu.set i (d, o')) h' := by
  have hm : (d, o) ∈ mu := List.mem_of_getElem? hi
  have hd := st.own.mem _ hm
  have hl := st.ml _ hm
  have hidx : i < mu.length := by
    rcases Nat.lt_or_ge i mu.length with q | q
    · exact q
    · rw [List.getElem?_eq_none q] at hi; cases hi
  have key : ∀ p ∈ mu.set i (d, o'), p = (d, o') ∨ (p ∈ mu ∧ p.1 ≠ d) := by
    intro p hp
    obtain ⟨j, hj⟩ := List.getElem?_of_mem hp
    rw [List.getElem?_set] at hj
    split at hj
    · rename_i e
      subst e
      exact .inl (Option.some.inj hj).symm
    · rename_i e
      refine .inr ⟨List.mem_of_getElem? hj, fun q => e ?_⟩
      have h1 : (mu.map (·.1))[i]? = some d := by simp [hi]
      have h2 : (mu.map (·.1))[j]? = some d := by simp [hj, q]
      exact (List.getElem?_inj (by simpa using hidx) st.own.nd).mp (h1.trans h2.symm)
  refine ⟨⟨fun b x e => ?_, fun p hp => ?_, by rw [set_map_fst hi]; exact st.own.nd⟩, ⟨st.step.sub, st.step.old, fun b x e n => ?_, by rw [hs.1]; exact st.step.size⟩, st.ns.sameBut hs (Ne.symm hl.1), st.gl, st.lo, fun p hp => ?_⟩
  · exact (hs.2 b fun q => by rw [q, hd.2] at e; cases e).trans (st.own.keep b x e)
  · rcases key p hp with rfl | ⟨q, ne⟩
    · exact ⟨ho, hd.2⟩
    · exact ⟨(hs.2 _ ne).trans (st.own.mem p q).1, (st.own.mem p q).2⟩
  · refine (hs.2 b fun q => ?_).trans (st.step.frame b x e n)
    subst q
    rcases hl.2 with q | q
    · exact n q
    · exact absurd (Heap.lt_size e) (Nat.not_lt.mpr q)
  · rcases key p hp with rfl | ⟨q, _⟩
    · exact hl
    · exact st.ml p q

/-- a new object, to turn -/
theorem St.new (st : St gE hE S g L m mu h) (o : Obj) (hf : o.isFreed = false := by rfl) : St gE hE S g L m ((h.objs.size, o) :: mu) (h.push o) := by
  have hsz := st.step.size
  have gn : g.get? h.objs.size = none := by
    cases q : g.get? h.objs.size with
    | none => rfl
    | some x => exact absurd (Heap.lt_size (st.own.keep _ _ q)) (Nat.lt_irrefl _)
  refine ⟨⟨fun b x e => Heap.get?_push_of_some _ (st.own.keep b x e), fun p hp => ?_, ?_⟩, ⟨st.step.sub, st.step.old, fun b x e n => Heap.get?_push_of_some _ (st.step.frame b x e n), by rw [Heap.size_push]; exact Nat.le_succ_of_le hsz⟩, st.ns.push o, st.gl, st.lo, fun p hp => ?_⟩
  · rcases List.mem_cons.mp hp with rfl | hp
    · exact ⟨Heap.get?_push_size _ hf, gn⟩
    · exact ⟨Heap.get?_push_of_some _ (st.own.mem p hp).1, (st.own.mem p hp).2⟩
  · rw [List.map_cons, List.nodup_cons]
    refine ⟨fun q => ?_, st.own.nd⟩
    obtain ⟨p, hp, e⟩ := List.mem_map.mp q
    have := Heap.lt_size (st.own.mem p hp).1
    rw [e] at this
    exact Nat.lt_irrefl _ this
  · rcases List.mem_cons.mp hp with rfl | hp
    · exact ⟨fun q => absurd st.ns.lt (by rw [← q]; exact Nat.lt_irrefl _), .inr hsz⟩
    · exact st.ml p hp

noncomputable def restrict (h : Heap) (P : Addr → Bool) : Heap := hideAll h ((List.range h.objs.size).filter fun b => !P b)
theorem restrict_get {h : Heap} {P : Addr → Bool} {b : Addr} : (restrict h P).get? b = if P b = true then h.get? b else none := by
  unfold restrict
  split
  · rename_i q
    cases e : h.get? b with
    | some o => exact hideAll_get _ e (by simp [q])
    | none =>
      cases e' : (hideAll h ((List.range h.objs.size).filter fun b => !P b)).get? b with
      | none => rfl
      | some o => have := of_hideAll _ e'; rw [e] at this; cases this
  · rename_i q
    cases e : h.get? b with
    | some o => exact hideAll_none _ (List.mem_filter.mpr ⟨List.mem_range.mpr (Heap.lt_size e), by simpa using q⟩)
    | none =>
      cases e' : (hideAll h ((List.range h.objs.size).filter fun b => !P b)).get? b with
      | none => rfl
      | some o => have := of_hideAll _ e'; rw [e] at this; cases this

/-- the first of the objects that may turn stays as it is from here on -/
theorem St.freeze {a : Addr} {o : Obj} (st : St gE hE S g L m ((a, o) :: mu) h) (ha : hE.objs.size ≤ a) :
    ∃ g', Sub g g' ∧ g'.get? a = some o ∧ (∀ b, b ≠ a → g'.get? b = g.get? b) ∧ St gE hE S g' L m mu h := by
  have hm := st.own.mem (a, o) (.head _)
  have hl := st.ml (a, o) (.head _)
  have nd := st.own.nd
  rw [List.map_cons, List.nodup_cons] at nd
  have key : ∀ b, (restrict h fun b => (g.get? b).isSome || b == a).get? b = if b = a then some o else g.get? b := by
    intro b
    rw [restrict_get]
    by_cases q : b = a
    · subst q; simp [hm.1]
    · rw [if_neg q]
      cases e : g.get? b with
      | none => simp [q]
      | some x => simp [st.own.keep b x e]
  refine ⟨restrict h fun b => (g.get? b).isSome || b == a, fun b x e => ?_, ?_, fun b q => ?_, ⟨fun b x e => ?_, fun p hp => ⟨(st.own.mem p (.tail _ hp)).1, ?_⟩, nd.2⟩, ⟨fun b x e => ?_, fun b q => ?_, st.step.frame, st.step.size⟩, st.ns, ?_, st.lo, fun p hp => st.ml p (.tail _ hp)⟩
  · rw [key, if_neg (fun q => by rw [q, hm.2] at e; cases e)]; exact e
  · rw [key, if_pos rfl]
  · rw [key, if_neg q]
  · rw [key] at e
    split at e
    · rename_i q; subst q; cases e; exact hm.1
    · exact st.own.keep b x e
  · rw [key, if_neg (fun q => nd.1 (List.mem_map.mpr ⟨p, hp, q⟩))]
    exact (st.own.mem p (.tail _ hp)).2
  · have := st.step.sub b x e
    rw [key, if_neg (fun q => by rw [q, hm.2] at this; cases this)]; exact this
  · rw [key, if_neg (fun q' => by subst q'; exact absurd q (Nat.not_lt.mpr ha))]; exact st.step.old b q
  · rw [key, if_neg (fun q => hl.1 q.symm)]; exact st.gl

theorem St.freezeC {a : Addr} {o : Obj} {P : Prop} (st : St gE hE S g L m ((a, o) :: mu) h) (ha : hE.objs.size ≤ a) (k : ∀ g', Sub g g' → g'.get? a = some o → St gE hE S g' L m mu h → P) : P :=
  let ⟨g', x, y, _, z⟩ := st.freeze ha
  k g' x y z
theorem St.sub {mu' : List (Addr × Obj)} (st : St gE hE S g L m mu h) (s : mu'.Sublist mu) : St gE hE S g L m mu' h :=
  ⟨⟨st.own.keep, fun p hp => st.own.mem p (s.subset hp), st.own.nd.sublist (s.map _)⟩, st.step, st.ns, st.gl, st.lo, fun p hp => st.ml p (s.subset hp)⟩
theorem St.perm {mu' : List (Addr × Obj)} (st : St gE hE S g L m mu h) (s : mu.Perm mu') : St gE hE S g L m mu' h :=
  ⟨⟨st.own.keep, fun p hp => st.own.mem p (s.mem_iff.mpr hp), (s.map _).nodup st.own.nd⟩, st.step, st.ns, st.gl, st.lo, fun p hp => st.ml p (s.mem_iff.mpr hp)⟩
theorem perm_front {l : List (Addr × Obj)} : ∀ {i : Nat} {p : Addr × Obj}, l[i]? = some p → l.Perm (p :: l.eraseIdx i) := by
  induction l with
  | nil => intro i p e; simp at e
  | cons x l ih =>
    intro i p e
    cases i with
    | zero => simp at e; subst e; exact .refl _
    | succ i =>
      simp only [List.getElem?_cons_succ] at e
      rw [List.eraseIdx_cons_succ]
      exact ((ih e).cons x).trans (.swap ..)
/-- one of them to the front -/
theorem St.front (st : St gE hE S g L m mu h) (i : Nat) {p : Addr × Obj} (hi : mu[i]? = some p) : St gE hE S g L m (p :: mu.eraseIdx i) h := st.perm (perm_front hi)

theorem Own.nil (k : Sub g h) : Own g h [] := ⟨k, fun _ hp => (nomatch hp), List.nodup_nil⟩

theorem St.sel {mu₁ mu₂ : List (Addr × Obj)} (st : St gE hE S g L m (mu₁ ++ mu₂) h) : Own g h mu₁ :=
  ⟨st.own.keep, fun p hp => st.own.mem p (List.mem_append_left _ hp), st.own.nd.sublist ((List.sublist_append_left _ _).map _)⟩

/-- behind a call that turned the first of them -/
theorem St.call {mu₁ mu₁' mu₂ : List (Addr × Obj)} {g' : Heap} (st : St gE hE S g L m (mu₁ ++ mu₂) h) (sp : Step (mu₁.map (·.1)) g h g' h') (ow : Own g' h' mu₁') (ha : mu₁'.map (·.1) = mu₁.map (·.1)) : St gE hE S g' L m (mu₁' ++ mu₂) h' := by
  have nd := st.own.nd
  rw [List.map_append] at nd
  have dis : ∀ p ∈ mu₂, p.1 ∉ mu₁.map (·.1) := fun p hp q => (List.nodup_append.mp nd).2.2 _ q _ (List.mem_map_of_mem hp) rfl
  have nL : L ∉ mu₁.map (·.1) := fun q => by
    obtain ⟨p, hp, e⟩ := List.mem_map.mp q
    exact (st.ml p (List.mem_append_left _ hp)).1 e
  have ge : hE.objs.size ≤ h.objs.size := st.step.size
  refine ⟨⟨ow.keep, fun p hp => ?_, ?_⟩, ⟨st.step.sub.trans sp.sub, fun b q => (sp.old b (Nat.lt_of_lt_of_le q ge)).trans (st.step.old b q), fun b o e n => sp.frame b o (st.step.frame b o e n) fun q => ?_, Nat.le_trans ge sp.size⟩, ?_, ?_, st.lo, fun p hp => ?_⟩
  · rcases List.mem_append.mp hp with hp | hp
    · exact ow.mem p hp
    · have := st.own.mem p (List.mem_append_right _ hp)
      exact ⟨sp.frame _ _ this.1 (dis p hp), (sp.old _ (Heap.lt_size this.1)).trans this.2⟩
  · rw [List.map_append, ha]; exact nd
  · obtain ⟨p, hp, r⟩ := List.mem_map.mp q
    rcases (st.ml p (List.mem_append_left _ hp)).2 with x | x
    · exact n (r ▸ x)
    · rw [r] at x; exact absurd (Heap.lt_size e) (Nat.not_lt.mpr x)
  · obtain ⟨o, es, ep, ho, r⟩ := st.ns
    exact ⟨o, es, ep, sp.frame _ _ ho nL, r⟩
  · exact (sp.old _ st.ns.lt).trans st.gl
  · rcases List.mem_append.mp hp with hp | hp
    · have : p.1 ∈ mu₁.map (·.1) := ha ▸ List.mem_map_of_mem hp
      obtain ⟨q, hq, e⟩ := List.mem_map.mp this
      rw [← e]; exact st.ml q (List.mem_append_left _ hq)
    · exact st.ml p (List.mem_append_right _ hp)
end

/-- room for calls -/
structure Rm (A : Around) (n : Nat) : Prop where
  d : A.depth + 2 * n < 900
  u : A.units + 16 * n < 4000
  hh : A.handled = none
/-- a name is stored -/
noncomputable def upd (m : Str → Option Value) (x : Str) (v : Value) : Str → Option Value := fun y => if y = x then some v else m y
theorem updN {m : Str → Option Value} {x y : Str} {v : Value} {r : Option Value} (h : y ≠ x) (e : m y = r) : upd m x v y = r := (if_neg h).trans e
end
-- B1
section
/- what a step asks of the written text, in words without a frame: proved once, for every frame -/
noncomputable def plainArg : Expr → Bool
  | .Starred .. => false
  | _ => true
noncomputable def plainArgs (l : List Expr) : Bool := l.all plainArg
theorem starEach_plain {e : Expr} {rest : List Expr} {env : Env} (h : plainArg e = true) : starEach (e :: rest) env = (false, eval e env) :: starEach rest env := by
  cases e <;> first | (cases h; done) | kernel_rfl
theorem any_back {pos : Pos} {l : List (Bool × Sem Value)} : (backTo pos l).any (·.1) = l.any (·.1) := by
  unfold backTo
  rw [List.any_map]
  rfl
theorem star_any {env : Env} : ∀ {l : List Expr}, plainArgs l = true → (starEach l env).any (·.1) = false
  | [], _ => by kernel_rfl
  | e :: r, h => by
    have h' := h
    rw [plainArgs, List.all_cons, Bool.and_eq_true] at h'
    rw [starEach_plain h'.1, List.any_cons]
    exact star_any h'.2
theorem plain_any {pos : Pos} {env : Env} {l : List Expr} (h : plainArgs l = true) : (backTo pos (starEach l env)).any (·.1) = false := any_back.trans (star_any h)
noncomputable def plainFun : Expr → Bool
  | .Attribute .. => false
  | _ => true
theorem eval_call {func : Expr} {args : List Expr} {pos : Pos} {env : Env} (h : plainFun func = true) :
    eval (.Call func args [] pos) env = (do callWith pos (← eval func env) [] (backTo pos (starEach args env)) (backToKw pos (keywordEach [] env))) := by
  cases func <;> first | (cases h; done) | kernel_rfl
noncomputable def noComp : Expr → Bool
  | .ListComp .. | .SetComp .. | .DictComp .. => false
  | _ => true
theorem swaps_no {value : Expr} {t : Option Expr} {n : Nat} {env : Env} (h : noComp value = true) : swapsWith value t n env = pure false := by
  cases value <;> first | (cases h; done) | kernel_rfl
/-- a name of a function's frame, of the kind k -/
noncomputable def nameIs (env : Env) (x : Str) (k : NameKind) : Bool := decide (env.scope.kind = .function) && decide (env.kindOf x = some k)
theorem nameIs.one {env : Env} {x : Str} {k : NameKind} (h : nameIs env x k = true) : env.scope.kind = .function := of_decide_eq_true (Bool.and_eq_true_iff.mp h).1
theorem nameIs.two {env : Env} {x : Str} {k : NameKind} (h : nameIs env x k = true) : env.kindOf x = some k := of_decide_eq_true (Bool.and_eq_true_iff.mp h).2
/-- a global name of a function's frame -/
noncomputable def globIs (env : Env) (x : Str) : Bool := decide (env.globals = mainGlobals) && nameIs env x .globalImplicit
theorem globIs.one {env : Env} {x : Str} (h : globIs env x = true) : env.scope.kind = .function := nameIs.one (Bool.and_eq_true_iff.mp h).2
theorem globIs.two {env : Env} {x : Str} (h : globIs env x = true) : env.kindOf x = some .globalImplicit := nameIs.two (Bool.and_eq_true_iff.mp h).2
theorem globIs.three {env : Env} {x : Str} (h : globIs env x = true) : env.globals = mainGlobals := of_decide_eq_true (Bool.and_eq_true_iff.mp h).1
theorem pa1 {e : Expr} {rest : List Expr} {env : Env} (h : plainArgs (e :: rest) = true) : starEach (e :: rest) env = (false, eval e env) :: starEach rest env := by
  rw [plainArgs, List.all_cons, Bool.and_eq_true] at h
  exact starEach_plain h.1
theorem pa2 {e : Expr} {rest : List Expr} {env : Env} {pos : Pos} (h : plainArgs (e :: rest) = true) : (backTo pos (starEach rest env)).any (·.1) = false := by
  rw [plainArgs, List.all_cons, Bool.and_eq_true] at h
  exact plain_any h.2
section
variable {prog : Program} {w : World} {mg mb : Str → Option Value} {p : Program} {loose : List Str} {A : Around} {E : Value → Shared → Prop}
  {gE hE g h : Heap} {S : List Addr} {L : Addr} {m : Str → Option Value} {mu : List (Addr × Obj)} {gs : Array GenState} {dr : Drawn} {tk : Nat} {os : OsState}

theorem Rm.lim {n : Nat} (r : Rm A n) : A.depth < recursionLimit := by have := r.d; unfold recursionLimit; omega
theorem Rm.line {n : Nat} (r : Rm A n) : A.units < cLine := by have := r.u; unfold cLine; omega
theorem Rm.mono {n k : Nat} (r : Rm A n) (h : k ≤ n) : Rm A k := ⟨by have := r.d; omega, by have := r.u; omega, r.hh⟩
theorem Rm.deeper {n : Nat} {env : Env} (r : Rm A (n + 1)) : Rm (A.deeper env) n := ⟨by have := r.d; show A.depth + 1 + 2 * n < 900; omega, by have := r.u; show A.units + 3 + 16 * n < 4000; omega, r.hh⟩
theorem Rm.in1 {n : Nat} (r : Rm A (n + 1)) : Rm A.in1 n := ⟨by have := r.d; show A.depth + 2 * n < 900; omega, by have := r.u; show A.units + 1 + 16 * n < 4000; omega, r.hh⟩

noncomputable abbrev lst (its : Array Value) (n : Nat) : Obj := { cls := .type "list", data := .seq its n }
noncomputable abbrev tup (its : Array Value) (n : Nat) : Obj := { cls := .type "tuple", data := .seq its n }

/-- the end of a walk: what is behind it is named by a letter -/
theorem zEnd {Z P : Flow → Shared → Prop} {f : Flow} {s : Shared} (h : ∀ f s, P f s → Z f s) (x : P f s) : Z f s := h _ _ x
theorem zRet {Z : Flow → Shared → Prop} {P : Value → Shared → Prop} {v : Value} {s : Shared} (h : ∀ v s, P v s → Z (.ret v) s) (x : P v s) : Z (.ret v) s := h _ _ x
/-- a def of the text is entered -/
theorem enter {n : Nat} {f : Addr} {fd : FuncData} {oc : Value} {od : Option Addr} {osl : Array (Option Value)} {body : List Stmt} {args : Args} {binds : List (Str × Value)} {R : Result → Shared → Prop}
    (C : Cx w mg mb p loose g) (ow : Own g h mu) (rm : Rm A (n + 1))
    (hf : (KK w).lookup f = some ⟨oc, od, .func fd, osl⟩) (hcd : codeIn (KK w) fd.code fd.qualname = true) (hbody : fd.body = .stmts body)
    (hbind : BindsTo ⟨h, gs, dr, tk, os⟩ fd args binds) (hloc : (binds.all fun x => decide (fd.scope.names.lookup x.1 = some .local)) = true)
    (walk : ∀ E h₁ tk₁, Rm (A.deeper (callEnv fd h.objs.size f)) n → St g h (mu.map (·.1)) g h.objs.size (fun y => binds.reverse.lookup y) mu h₁ →
      ∀ Z : Flow → Shared → Prop, (∀ fl s', R (.ok (.ret (match fl with | .ret v => v | _ => .none))) s' → Z fl s') →
      wpAny (model prog w) (A.deeper (callEnv fd h.objs.size f)) (execs body (callEnv fd h.objs.size f)) Z E ⟨h₁, gs, dr, tk₁, os⟩)
    (hco : fd.scope.isCoroutine = false) (hgen : fd.scope.isGenerator = false) (hk : fd.scope.kind = .function) (hcell : (fd.scope.names.all fun x => x.2 != .cell) = true) :
    codeAny (model prog w) A (.call (.ref f) args) R ⟨h, gs, dr, tk, os⟩ := by
  refine codeAny_call_def (fd := fd) (body := body) (binds := binds) rm.lim ((C.X.keeps ow.keep) _ _ hf) rfl (C.T.nolimit.keeps ow.keep) (codeRec_of (C.X.keeps ow.keep) hcd) hbody hbind
    (fun x hx => by simpa using List.all_eq_true.mp hcell x hx) (locs hloc) (fun h₁ hns hk₁ => ?_) hco hgen hk
  have sz : h.objs.size ≤ h₁.objs.size := Nat.le_of_lt hns.lt
  refine walk _ h₁ _ rm.deeper ⟨⟨ow.keep.trans hk₁, fun q hq => ⟨hk₁ _ _ (ow.mem q hq).1, (ow.mem q hq).2⟩, ow.nd⟩, ⟨Sub.rfl, fun _ _ => rfl, fun b o e _ => hk₁ b o e, sz⟩, hns, ?_, Nat.le_refl _, fun q hq => ⟨Nat.ne_of_lt (Heap.lt_size (ow.mem q hq).1), .inl (List.mem_map_of_mem hq)⟩⟩ _ fun _ _ x => x
  cases q : g.get? h.objs.size with
  | none => rfl
  | some x => exact absurd (Heap.lt_size (ow.keep _ _ q)) (Nat.lt_irrefl _)

section names
variable {env : Env} {x : Str} {pos : Pos} {v : Value} {Q : Value → Shared → Prop}
theorem nL (st : St gE hE S g L m mu h) (hv : m x = some v) (hq : Q v ⟨h, gs, dr, tk, os⟩) (hL : env.locals = L := by kernel_rfl)
    (hn : nameIs env x .local = true := by kernel_rfl) (hd : (x == ("__debug__" : Str)) = false := by kernel_rfl) :
    wpAny (model prog w) A (eval (.Name x pos) env) Q E ⟨h, gs, dr, tk, os⟩ := by subst hL; exact wpAny_Name (wpAny_loadName_local (nameIs.one hn) (nameIs.two hn) st.ns hv hq) hd
theorem nG (st : St gE hE S g L m mu h) (C : Cx w mg mb p loose g) (e : nsIn (KK w) mainGlobals x = some (some v)) (hq : Q v ⟨h, gs, dr, tk, os⟩) (hn : globIs env x = true := by kernel_rfl) (hd : (x == ("__debug__" : Str)) = false := by kernel_rfl) :
    wpAny (model prog w) A (eval (.Name x pos) env) Q E ⟨h, gs, dr, tk, os⟩ := Name_function_global (globIs.one hn) (globIs.two hn) (loadGlobal_global (env := env) ((globIs.three hn) ▸ C.T.g.keeps st.own.keep) (mg_of C.X C.T.g e) hq) hd
theorem nB (st : St gE hE S g L m mu h) (C : Cx w mg mb p loose g) (e : nsIn (KK w) mainGlobals x = some none ∧ bootBuiltins x = some v ∧ x ≠ "__name__") (hq : Q v ⟨h, gs, dr, tk, os⟩) (hn : globIs env x = true := by kernel_rfl) (hb : env.builtins = builtinsNs := by kernel_rfl)
    (hd : (x == ("__debug__" : Str)) = false := by kernel_rfl) :
    wpAny (model prog w) A (eval (.Name x pos) env) Q E ⟨h, gs, dr, tk, os⟩ := Name_function_global (globIs.one hn) (globIs.two hn) (loadGlobal_builtin (env := env) ((globIs.three hn) ▸ C.T.g.keeps st.own.keep) (mg_none_of C.X C.T.g e.1) (hb ▸ C.T.b.keeps st.own.keep) ((C.T.builtins x e.2.2).trans e.2.1) hq) hd
theorem sL {Q : Unit → Shared → Prop} (st : St gE hE S g L m mu h) (hq : ∀ h' tk', St gE hE S g L (upd m x v) mu h' → Q () ⟨h', gs, dr, tk', os⟩) (hL : env.locals = L := by kernel_rfl)
    (hn : nameIs env x .local = true := by kernel_rfl) : wpAny (model prog w) A (storeName env x v) Q E ⟨h, gs, dr, tk, os⟩ := by
  subst hL
  exact wpAny_storeName_local (nameIs.two hn) st.ns (fun h' hn hs => hq h' _ (st.set hn hs)) (by rw [nameIs.one hn]; rfl)
end names

section calls
variable {env : Env} {pos : Pos} {f : Value} {first : List Value} {Q : Value → Shared → Prop}
/-- a call of a def or class of the text, with arguments by place -/
theorem cG {e : Expr} {rest : List Expr} (hk : keepIn (KK w) f = true) (h : wpAny (model prog w) A (spliced (backTo pos (starEach (e :: rest) env))) (fun vs s₁ => (KK w).In s₁.heap ∧ wpAny (model prog w) A (call f (first ++ vs)) Q E s₁) E s)
    (hpl : plainArgs (e :: rest) = true := by kernel_rfl) :
    wpAny (model prog w) A (callWith pos f first (backTo pos (starEach (e :: rest) env)) []) Q E s := by
  rw [(pa1 hpl)] at h ⊢
  exact callWith_of (by show ((false || (backTo pos (starEach rest env)).any (·.1)) || false) = false; rw [(pa2 hpl)]; rfl) (keeps_K hk) (evalArgs_plain h)
theorem cG0 (st : St gE hE S g L m mu h) (C : Cx w mg mb p loose g) (hk : keepIn (KK w) f = true) (hq : wpAny (model prog w) A (call f first) Q E ⟨h, gs, dr, tk, os⟩) :
    wpAny (model prog w) A (callWith pos f first (backTo pos (starEach [] env)) []) Q E ⟨h, gs, dr, tk, os⟩ :=
  callWith_of rfl (keeps_K hk) (evalArgs_nil3 ⟨C.X.keeps st.own.keep, by simpa using hq⟩)
theorem kin {P : Prop} (st : St gE hE S g L m mu h) (C : Cx w mg mb p loose g) (x : P) : (KK w).In h ∧ P := ⟨C.X.keeps st.own.keep, x⟩
end calls

/-- an object of a class of the text, its fields -/
noncomputable def InstF (g : Heap) (x Cl : Addr) (fs : List (Str × Value)) : Prop := ∃ dx od, g.get? x = some (instObj Cl dx) ∧ g.get? dx = some od ∧ ∀ n, lookIn n od = some (fs.lookup n)
theorem InstF.sub {g g' : Heap} {x Cl : Addr} {fs : List (Str × Value)} (I : InstF g x Cl fs) (k : Sub g g') : InstF g' x Cl fs := let ⟨dx, od, a, b, c⟩ := I; ⟨dx, od, k _ _ a, k _ _ b, c⟩

noncomputable def fieldOk (K : Frag) (Cl : Addr) (name : Str) : Bool := (clsIn K Cl).any (·.hasDict) && findIn K (.ref Cl) name == some none && findIn K (.ref Cl) "__getattribute__" == some (some (.builtin "object.__getattribute__"))
noncomputable def methOk (K : Frag) (Cl f : Addr) (name : Str) : Bool := findIn K (.ref Cl) "__getattribute__" == some (some (.builtin "object.__getattribute__")) && findIn K (.ref Cl) "__getattr__" == some none && findIn K (.ref Cl) name == some (some (.ref f)) && typeIn K (.ref f) == some (.type "function")

section attrs
variable {env : Env} {pos : Pos} {Q : Value → Shared → Prop} {x Cl : Addr} {fs : List (Str × Value)} {name : Str} {v : Value} {expr : Bool}
theorem findObj_field {K : Frag} {od : Obj} (hf : fieldOk K Cl name = true) (hv : lookIn name od = some (some v)) : findObj K Cl (some od) name = some (.value v) := by
  simp only [fieldOk, Bool.and_eq_true, beq_iff_eq] at hf
  obtain ⟨⟨a, b⟩, _⟩ := hf
  obtain ⟨cd, hc, hd⟩ := any_some a
  unfold findObj
  rw [hc, Option.bind_some, b, Option.bind_some]
  simp only [Option.bind_some, PySem.W.ownOf, hd, if_true, hv]
/-- a field is read -/
theorem aF (st : St gE hE S g L m mu h) (C : Cx w mg mb p loose g) (I : InstF g x Cl fs) (hf : fieldOk (KK w) Cl name = true) (hv : fs.lookup name = some v) (hh : handedIn v = true)
    (hq : ∀ tk', Q v ⟨h, gs, dr, tk', os⟩) : wpAny (model prog w) A (getAttr (.ref x) name expr) Q E ⟨h, gs, dr, tk, os⟩ := by
  obtain ⟨dx, od, a, b, c⟩ := I
  refine get_value (K := KK w) (C := Cl) (ox := instObj Cl dx) (od := some od) (s := ⟨h, gs, dr, tk, os⟩) (C.X.keeps st.own.keep) ⟨st.own.keep _ _ a, rfl, rfl, st.own.keep _ _ b⟩ ?_ (findObj_field hf (by rw [c, hv])) hh (hq _)
  simp only [fieldOk, Bool.and_eq_true, beq_iff_eq] at hf
  exact hf.2
/-- a method is found -/
theorem aM {f : Addr} {pl : Sem Bool} {Q : Value × List Value → Shared → Prop} (st : St gE hE S g L m mu h) (C : Cx w mg mb p loose g) (I : InstF g x Cl fs) (hf : methOk (KK w) Cl f name = true) (hv : fs.lookup name = none)
    (hq : Q (.ref f, [.ref x]) ⟨h, gs, dr, tk, os⟩) : wpAny (model prog w) A (getMethod (.ref x) name pl) Q E ⟨h, gs, dr, tk, os⟩ := by
  obtain ⟨dx, od, a, b, c⟩ := I
  simp only [methOk, Bool.and_eq_true, beq_iff_eq] at hf
  exact method_fn (K := KK w) (C := Cl) (ox := instObj Cl dx) (od := some od) (s := ⟨h, gs, dr, tk, os⟩) (C.X.keeps st.own.keep) ⟨st.own.keep _ _ a, rfl, rfl, st.own.keep _ _ b⟩ hf.1.1.1 hf.1.1.2 hf.1.2 hf.2 (by show (lookIn name od).map _ = _; rw [c, hv]; rfl) hq
end attrs

section bytes
variable {x y : List UInt8} {t u : Tok} {Q : Value → Shared → Prop}
theorem addBy (hz : x.length + y.length ≤ 16777216) (hq : ∀ tk' t', Q (.bytes (x ++ y).toArray t') ⟨h, gs, dr, tk', os⟩) : wpAny (model prog w) A (binaryOp .Add (.bytes x.toArray t) (.bytes y.toArray u)) Q E ⟨h, gs, dr, tk, os⟩ := by
  refine KBy.add_bytes (by simpa using hz) fun t' k => ?_
  have := hq k t'
  rwa [show (x ++ y).toArray = x.toArray ++ y.toArray from by simp] at this
theorem truBy {Q : Bool → Shared → Prop} (hz : x.length ≤ 1000000) (hq : ∀ tk', Q (x != []) ⟨h, gs, dr, tk', os⟩) : wpAny (model prog w) A (truthy (.bytes x.toArray t)) Q E ⟨h, gs, dr, tk, os⟩ := by
  refine truthy_bytes (by simp; omega) ?_
  have := hq (tk + 1 + 1)
  have e : ((x.toArray.size : Int) != 0) = (x != []) := by
    cases x with
    | nil => rfl
    | cons a l =>
      have h1 : ((a :: l) != []) = true := by simp
      rw [h1]
      simp
      omega
  rw [e]; exact this
theorem conBy {env : Env} {k : Nat} {pos : Pos} (hq : ∀ tk' t', Q (.bytes x.toArray t') ⟨h, gs, dr, tk', os⟩) : wpAny (model prog w) A (eval (.Constant (.bytes x) k pos) env) Q E ⟨h, gs, dr, tk, os⟩ := Constant_bytes (hq _ _)
theorem conInt {env : Env} {k : Nat} {pos : Pos} {i : Int} (hq : ∀ tk' t', Q (.int i t') ⟨h, gs, dr, tk', os⟩) : wpAny (model prog w) A (eval (.Constant (.int i) k pos) env) Q E ⟨h, gs, dr, tk, os⟩ := wpAny_Constant_int (hq _ _)
theorem conStr {env : Env} {k : Nat} {pos : Pos} {i : Str} (hq : ∀ tk' t', Q (.str i t') ⟨h, gs, dr, tk', os⟩) : wpAny (model prog w) A (eval (.Constant (.str i) k pos) env) Q E ⟨h, gs, dr, tk, os⟩ := Constant_str (hq _ _)
end bytes
end


section nodes
variable {M : Model} {A : Around} {E : Value → Shared → Prop} {s : Shared} {env : Env}
theorem xExecs {st rest} {Q : Flow → Shared → Prop}
    (h : wpAny M A (exec st env) (fun f s' => match f with | .next => wpAny M A (execs rest env) Q E s' | f => Q f s') E s) : wpAny M A (execs (st :: rest) env) Q E s := wpAny_execs_cons h
/-- a flow that goes on with the next statement -/
noncomputable def isGo : Flow → Bool
  | .next => true
  | _ => false
/-- a statement: what is behind it is named by a letter -/
theorem xExecsZ {st rest} {Q : Flow → Shared → Prop}
    (h : ∀ Z : Flow → Shared → Prop, (∀ s', wpAny M A (execs rest env) Q E s' → Z .next s') → (∀ f s', isGo f = false → Q f s' → Z f s') → wpAny M A (exec st env) Z E s) : wpAny M A (execs (st :: rest) env) Q E s :=
  wpAny_execs_cons (h _ (fun _ x => x) fun f s' hf x => by cases f <;> first | (cases hf; done) | exact x)
theorem zNx {Z : Flow → Shared → Prop} {P : Shared → Prop} {s : Shared} (h : ∀ s, P s → Z .next s) (x : P s) : Z .next s := h s x
theorem zOut {Z Q : Flow → Shared → Prop} {f : Flow} {s : Shared} (h : ∀ f s, isGo f = false → Q f s → Z f s) (hf : isGo f = false) (x : Q f s) : Z f s := h f s hf x
theorem xAssign {x pos' value pos} {Q : Flow → Shared → Prop} (h : wpAny M A (eval value env) (fun v s₁ => wpAny M A (storeName env x v) (fun _ => Q .next) E s₁) E s)
    (hs : noComp value = true := by kernel_rfl) : wpAny M A (exec (.Assign [.Name x pos'] value pos) env) Q E s := wpAny_Assign_Name h (swaps_no hs)
theorem xAssignSub {o i pos' value pos} {Q : Flow → Shared → Prop}
    (h : wpAny M A (eval value env) (fun v s₁ => wpAny M A (eval o env) (fun ov s₂ => wpAny M A (eval i env) (fun iv s₃ => wpAny M A (setItem ov iv v) (fun _ => Q .next) E s₃) E s₂) E s₁) E s)
    (hs : noComp value = true := by kernel_rfl) : wpAny M A (exec (.Assign [.Subscript o i pos'] value pos) env) Q E s := wpAny_Assign_Subscript h (swaps_no hs)
theorem xAssignAttr {o attr pos' value pos} {Q : Flow → Shared → Prop}
    (h : wpAny M A (eval value env) (fun v s₁ => wpAny M A (eval o env) (fun ov s₂ => wpAny M A (setAttr ov attr v) (fun _ => Q .next) E s₂) E s₁) E s)
    (hs : noComp value = true := by kernel_rfl) : wpAny M A (exec (.Assign [.Attribute o attr pos'] value pos) env) Q E s := plainObj_wpAny_Assign_Attribute h (swaps_no hs)
theorem xAssignTup {elts k tpos value pos} {Q : Flow → Shared → Prop}
    (h : wpAny M A (eval value env) (fun v s₁ => wpAny M A (assign (.Tuple elts k tpos) env v) (fun _ => Q .next) E s₁) E s)
    (hs : swapsWithSole [.Tuple elts k tpos] value pos.line env = pure false := by kernel_rfl) (hw : swappedStores [.Tuple elts k tpos] value env = pure none := by kernel_rfl) :
    wpAny M A (exec (.Assign [.Tuple elts k tpos] value pos) env) Q E s := Assign_Tuple h hs hw
theorem xCompare {l op r pos} {Q : Value → Shared → Prop}
    (h : wpAny M A (eval l env) (fun a s₁ => wpAny M A (eval r env) (fun b s₂ => wpAny M A (compareOp op a b) Q E s₂) E s₁) E s) (hm : behindInMarks op r = false := by kernel_rfl) :
    wpAny M A (eval (.Compare l [op] [r] pos) env) Q E s := wpAny_Compare1 h hm
theorem xIsCompare {l op r pos whole} {Q : Bool → Shared → Prop}
    (h : wpAny M A (eval l env) (fun a s₁ => wpAny M A (eval r env) (fun b s₂ => wpAny M A (compareOp op a b) (fun c s₃ => wpAny M A (truthy c) Q E s₃) E s₂) E s₁) E s)
    (hm : behindInMarks op r = false := by kernel_rfl) : wpAny M A (isTrue (.Compare l [op] [r] pos) env whole) Q E s := wpAny_isTrue_Compare1 h hm
theorem xIsPlain {e : Expr} {whole : Sem Value} {Q : Bool → Shared → Prop} (h : wpAny M A whole (fun v s₁ => wpAny M A (truthy v) Q E s₁) E s)
    (he : isTrue e env whole = (do let v ← whole; standAt e.pos; holding [v] (truthy v)) := by kernel_rfl) : wpAny M A (isTrue e env whole) Q E s := isTrue_plain h he
theorem xSplCons {e : Expr} {rest : List Expr} {pos : Pos} {Q : List Value → Shared → Prop}
    (h : wpAny M A (eval e env) (fun v s₁ => wpAny M A (spliced (backTo pos (starEach rest env))) (fun vs s₂ => Q (v :: vs) s₂) E s₁) E s)
    (hpl : plainArg e = true := by kernel_rfl) : wpAny M A (spliced (backTo pos (starEach (e :: rest) env))) Q E s := spliced_more h (starEach_plain hpl)
theorem xSplNil {pos : Pos} {Q : List Value → Shared → Prop} (h : Q [] s) : wpAny M A (spliced (backTo pos (starEach [] env))) Q E s := spliced_none h
theorem xCall {func : Expr} {args : List Expr} {pos : Pos} {Q : Value → Shared → Prop}
    (h : wpAny M A (eval func env) (fun f s₁ => wpAny M A (callWith pos f [] (backTo pos (starEach args env)) []) Q E s₁) E s)
    (he : plainFun func = true := by kernel_rfl) :
    wpAny M A (eval (.Call func args [] pos) env) Q E s := Call_ h (eval_call he)
theorem xMethod {o : Expr} {name : Str} {apos pos : Pos} {args : List Expr} {Q : Value → Shared → Prop}
    (h : wpAny M A (eval o env) (fun ov s₁ => wpAny M A (getMethod ov name (do return (← importBound o env).getD true)) (fun fx s₂ => wpAny M A (callWith pos fx.1 fx.2 (backTo pos (starEach args env)) []) Q E s₂) E s₁) E s)
    (he : eval (.Call (.Attribute o name apos) args [] pos) env = (do
      let ov ← eval o env
      standAt apos.atName
      let (f, first) ← holding [ov] (getMethod ov name (do return (← importBound o env).getD true))
      callWith pos f first (backTo pos (starEach args env)) (backToKw pos (keywordEach [] env))) := by kernel_rfl) :
    wpAny M A (eval (.Call (.Attribute o name apos) args [] pos) env) Q E s := methodCall_KW (kws := []) h he
theorem xAttrN {x attr : Str} {xp pos : Pos} {Q : Value → Shared → Prop}
    (h : wpAny M A (eval (.Name x xp) env) (fun o s₁ => wpAny M A (getAttr o attr true) Q E s₁) E s) : wpAny M A (eval (.Attribute (.Name x xp) attr pos) env) Q E s := Attribute_name h
theorem xAttr {prog : Program} {w : World} {value : Expr} {attr : Str} {pos : Pos} {Q : Value → Shared → Prop}
    (h : wpAny (model prog w) A (eval value env) (fun o s₁ => wpAny (model prog w) A (getAttr o attr true) Q E s₁) E s)
    (he : eval (.Attribute value attr pos) env = (do
      let o ← eval value env
      standAt pos.atName
      let r ← holding [o] (getAttr o attr true)
      letTemporaryGo value o r
      pure r) := by kernel_rfl) : wpAny (model prog w) A (eval (.Attribute value attr pos) env) Q E s := Attribute_any_ h he
theorem xExpr {prog : Program} {w : World} {e pos} {Q : Flow → Shared → Prop} (h : wpAny (model prog w) A (eval e env) (fun _ => Q .next) E s)
    (hi : interactive env = false := by kernel_rfl) (hs : noComp e = true := by kernel_rfl) : wpAny (model prog w) A (exec (.Expr e pos) env) Q E s := wpAny_Expr_any h hi (swaps_no hs)
theorem xIf {test body orelse pos} {Q : Flow → Shared → Prop}
    (h : wpAny M A (isTrue test env (eval test env)) (fun b s₂ => if b then wpAny M A (execs body env) Q E s₂ else wpAny M A (execs orelse env) Q E s₂) E s) : wpAny M A (exec (.If test body orelse pos) env) Q E s := wpAny_If h
end nodes

/-- a def of the text -/
noncomputable def fdOf (w : World) (f : Addr) : FuncData := match (KK w).lookup f with | some ⟨_, _, .func fd, _⟩ => fd | _ => default
noncomputable def bodyOf (w : World) (f : Addr) : List Stmt := match (fdOf w f).body with | .stmts b => b | _ => []
end
-- B2
section
section
variable {gE hE g h h' : Heap} {S : List Addr} {L : Addr} {m m' : Str → Option Value} {mu : List (Addr × Obj)}

/-- the first of the objects has turned, or is let go; all else but the frame is as it was -/
theorem St.moveD {d : Addr} {o : Obj} (st : St gE hE S g L m ((d, o) :: mu) h) (k : ∀ b x, b ≠ d → h.get? b = some x → h'.get? b = some x) : St gE hE S g L m mu h' := by
  have hd := st.own.mem (d, o) (.head _)
  have hl := st.ml (d, o) (.head _)
  have nd := st.own.nd
  rw [List.map_cons, List.nodup_cons] at nd
  have ns : h'.Ns L m := by
    obtain ⟨x, es, ep, ho, r⟩ := st.ns
    exact ⟨x, es, ep, k _ _ (Ne.symm hl.1) ho, r⟩
  refine ⟨⟨fun b x e => k b x (fun q => by rw [q, hd.2] at e; cases e) (st.own.keep b x e), fun p hp => ⟨k _ _ (fun q => nd.1 (List.mem_map.mpr ⟨p, hp, q⟩)) (st.own.mem p (.tail _ hp)).1, (st.own.mem p (.tail _ hp)).2⟩, nd.2⟩,
    ⟨st.step.sub, st.step.old, fun b x e n => k b x (fun q => ?_) (st.step.frame b x e n), Nat.le_of_lt (Nat.lt_of_le_of_lt st.lo ns.lt)⟩, ns, st.gl, st.lo, fun p hp => st.ml p (.tail _ hp)⟩
  subst q
  rcases hl.2 with q | q
  · exact n q
  · exact absurd (Heap.lt_size e) (Nat.not_lt.mpr q)
theorem St.move {d : Addr} {o o' : Obj} (st : St gE hE S g L m ((d, o) :: mu) h) (k : ∀ b x, b ≠ d → h.get? b = some x → h'.get? b = some x) (ho : h'.get? d = some o') : St gE hE S g L m ((d, o') :: mu) h' := by
  have s := st.moveD k
  refine ⟨⟨s.own.keep, fun p hp => ?_, by have := st.own.nd; rwa [List.map_cons] at this ⊢⟩, s.step, s.ns, s.gl, s.lo, fun p hp => ?_⟩
  · rcases List.mem_cons.mp hp with rfl | hp
    · exact ⟨ho, (st.own.mem (d, o) (.head _)).2⟩
    · exact s.own.mem p hp
  · rcases List.mem_cons.mp hp with rfl | hp
    · exact st.ml (d, o) (.head _)
    · exact s.ml p hp
theorem St.other {C : Addr} (st : St gE hE S g L m mu h) (hg : g.get? C = none) (hL : C ≠ L) (hm : ∀ p ∈ mu, p.1 ≠ C) (hC : hE.objs.size ≤ C) (hs : Heap.SameBut C h h') : St gE hE S g L m mu h' := by
  refine ⟨⟨fun b x e => (hs.2 b fun q => by rw [q, hg] at e; cases e).trans (st.own.keep b x e), fun p hp => ⟨(hs.2 _ (hm p hp)).trans (st.own.mem p hp).1, (st.own.mem p hp).2⟩, st.own.nd⟩,
    ⟨st.step.sub, st.step.old, fun b x e n => (hs.2 b fun q => ?_).trans (st.step.frame b x e n), by rw [hs.1]; exact st.step.size⟩, st.ns.sameBut hs (Ne.symm hL), st.gl, st.lo, st.ml⟩
  subst q
  exact absurd (Heap.lt_size e) (Nat.not_lt.mpr hC)
/-- out of a block of its own frame C -/
theorem St.outer {C : Addr} {mc : Str → Option Value} {mu' : List (Addr × Obj)} {g' : Heap} (st : St gE hE S g L m mu h) (si : St g h (mu.map (·.1)) g' C mc mu' h') : St gE hE S g' L m mu' h' := by
  have nL : L ∉ mu.map (·.1) := fun q => by
    obtain ⟨p, hp, e⟩ := List.mem_map.mp q
    exact (st.ml p hp).1 e
  have ge := st.step.size
  refine ⟨si.own, ⟨st.step.sub.trans si.step.sub, fun b q => (si.step.old b (Nat.lt_of_lt_of_le q ge)).trans (st.step.old b q), fun b o e n => si.step.frame b o (st.step.frame b o e n) fun q => ?_, Nat.le_trans ge si.step.size⟩, ?_, (si.step.old _ st.ns.lt).trans st.gl, st.lo, fun p hp => ?_⟩
  · obtain ⟨p, hp, r⟩ := List.mem_map.mp q
    rcases (st.ml p hp).2 with x | x
    · exact n (r ▸ x)
    · rw [r] at x; exact absurd (Heap.lt_size e) (Nat.not_lt.mpr x)
  · obtain ⟨o, es, ep, ho, r⟩ := st.ns
    exact ⟨o, es, ep, si.step.frame _ _ ho nL, r⟩
  · rcases (si.ml p hp).2 with q | q
    · obtain ⟨p', hp', e⟩ := List.mem_map.mp q
      rw [← e]; exact st.ml p' hp'
    · exact ⟨Nat.ne_of_gt (Nat.lt_of_lt_of_le st.ns.lt q), .inr (Nat.le_trans ge q)⟩
end

section
variable {prog : Program} {w : World} {A : Around} {gE hE g h : Heap} {S : List Addr} {L : Addr} {m : Str → Option Value} {mu : List (Addr × Obj)} {gs : Array GenState} {dr : Drawn} {tk : Nat} {os : OsState}

/-- what holds between the turns of a loop -/
inductive ForJ (n : Nat) (Si : Nat → Heap → Prop) (gE hE : Heap) (S : List Addr) (g : Heap) (L I : Addr) (gs : Array GenState) (dr : Drawn) (os : OsState) (J : Nat → Heap → (Str → Option Value) → List (Addr × Obj) → Prop) (k : Nat) (s' : Shared) : Prop
  | mk (i : Nat) (g₁ h₁ : Heap) (m₁ : Str → Option Value) (mu₁ : List (Addr × Obj)) (tk₁ : Nat) (oI : Obj) (hk : k = n - i) (hi : i ≤ n) (hs : s' = ⟨h₁, gs, dr, tk₁, os⟩) (j : J i g₁ m₁ mu₁) (sg : Sub g g₁) (st : St gE hE S g₁ L m₁ ((I, oI) :: mu₁) h₁) (si : Si i h₁) : ForJ n Si gE hE S g L I gs dr os J k s'
inductive CompJ (n : Nat) (Si : Nat → Heap → Prop) (h : Heap) (S : List Addr) (g : Heap) (C D I : Addr) (gs : Array GenState) (dr : Drawn) (os : OsState) (J : Nat → Heap → List Value → List (Addr × Obj) → Prop) (k : Nat) (s' : Shared) : Prop
  | mk (i : Nat) (g₁ h₁ : Heap) (m₁ : Str → Option Value) (mu₁ : List (Addr × Obj)) (tk₁ : Nat) (oI : Obj) (ys : List Value) (na : Nat) (hk : k = n - i) (hi : i ≤ n) (hs : s' = ⟨h₁, gs, dr, tk₁, os⟩) (j : J i g₁ ys mu₁) (sg : Sub g g₁) (hl : ys.length ≤ i) (st : St g h S g₁ C m₁ ((D, lst ys.toArray na) :: (I, oI) :: mu₁) h₁) (si : Si i h₁) : CompJ n Si h S g C D I gs dr os J k s'
/-- a turn that ends at its end, or by continue -/
noncomputable def isNx : Flow → Bool
  | .next | .cont => true
  | _ => false
/-- a for over anything that walks, by what holds between its turns -/
theorem forW {target : Expr} {body : List Stmt} {env : Env} {I : Addr} {fp : List Addr} {n : Nat} {P : Nat → Value → Prop} {Si : Nat → Heap → Prop} {R : Result → Shared → Prop} {oI : Obj}
    (W : Walks prog w A I fp [I] n P Si) (hfp : ∀ b ∈ fp, b = I ∨ ∃ o, g.get? b = some o) (hob : ∀ i h, Si i h → ∃ o, h.get? I = some o)
    (st : St gE hE S g L m ((I, oI) :: mu) h) (h0 : Si 0 h)
    (J : Nat → Heap → (Str → Option Value) → List (Addr × Obj) → Prop) (j0 : J 0 g m mu)
    (turn : ∀ (i : Nat) (v : Value) (g₁ h₁ : Heap) (m₁ : Str → Option Value) (mu₁ : List (Addr × Obj)) (tk₁ : Nat) (oI : Obj) (E : Value → Shared → Prop), i < n → P i v → J i g₁ m₁ mu₁ → Sub g g₁ → St gE hE S g₁ L m₁ ((I, oI) :: mu₁) h₁ →
      wpAny (model prog w) A (assign target env v) (fun _ s₂ => wpAny (model prog w) A (execs body env) (fun f s₃ => match f with
        | .next | .cont => ∃ g₂ h₂ m₂ mu₂ tk₂, s₃ = ⟨h₂, gs, dr, tk₂, os⟩ ∧ Sub g₁ g₂ ∧ St gE hE S g₂ L m₂ ((I, oI) :: mu₂) h₂ ∧ J (i + 1) g₂ m₂ mu₂
        | .brk => R (.ok .next) s₃
        | .ret v => R (.ok (.ret v)) s₃) E s₂) E ⟨h₁, gs, dr, tk₁, os⟩)
    (done : ∀ g₁ h₁ m₁ mu₁ tk₁, J n g₁ m₁ mu₁ → Sub g g₁ → St gE hE S g₁ L m₁ mu₁ h₁ → R (.ok .next) ⟨h₁, gs, dr, tk₁, os⟩)
    (ht : ∀ v, letOwnedTupleGo target (.ref I) v = pure ()) : codeAny (model prog w) A (.forLoop target (.ref I) body [] env) R ⟨h, gs, dr, tk, os⟩ := by
  refine codeAny_forLoop_any (ForJ n Si gE hE S g L I gs dr os J) ?_ n
    ⟨0, g, h, m, mu, tk, oI, rfl, Nat.zero_le _, rfl, j0, Sub.rfl, st, h0⟩
  rintro k s' ⟨i, g₁, h₁, m₁, mu₁, tk₁, oI, rfl, hi, rfl, j, sg, st₁, si⟩
  by_cases hlt : i < n
  · refine W.item i _ _ _ hlt si fun v h₂ tk₂ hp si₂ hk => ?_
    dsimp only
    rw [ht]
    refine wpAny_pure ?_
    obtain ⟨o', ho'⟩ := hob _ _ si₂
    have st₂ : St gE hE S g₁ L m₁ ((I, o') :: mu₁) h₂ := st₁.move (fun b x q e => hk b x (by simpa using q) e) ho'
    refine wpAny_mono (turn i v g₁ h₂ m₁ mu₁ tk₂ o' _ hlt hp j sg st₂) (fun _ s₃ q => wpAny_mono q (fun f s₄ z => ?_) fun _ _ e => e) fun _ _ e => e
    have fin : (∃ g₂ h₂ m₂ mu₂ tk₂, s₄ = ⟨h₂, gs, dr, tk₂, os⟩ ∧ Sub g₁ g₂ ∧ St gE hE S g₂ L m₂ ((I, o') :: mu₂) h₂ ∧ J (i + 1) g₂ m₂ mu₂) →
        ∃ k', k' < n - i ∧ ForJ n Si gE hE S g L I gs dr os J k' s₄ := by
      rintro ⟨g₂, h₃, m₂, mu₂, tk₃, rfl, sg₂, st₃, j₂⟩
      refine ⟨n - (i + 1), by omega, i + 1, g₂, h₃, m₂, mu₂, tk₃, o', rfl, hlt, rfl, j₂, sg.trans sg₂, st₃, W.frame _ _ _ si₂ fun b hb o e => ?_⟩
      rcases hfp b hb with rfl | ⟨x, hx⟩
      · rw [ho'] at e; cases e
        exact (st₃.own.mem _ (.head _)).1
      · have h1 := st₂.own.keep b x (sg b x hx)
        rw [h1] at e; cases e
        exact st₃.own.keep b _ (sg₂ b _ (sg b _ hx))
    cases f with
    | next => exact fin z
    | cont => exact fin z
    | brk => exact z
    | ret v => exact z
  · have e : i = n := by omega
    subst e
    refine W.done _ _ _ si fun h₂ tk₂ hk => ?_
    exact wpAny_execs_nil (done g₁ h₂ m₁ mu₁ tk₂ j sg (st₁.moveD fun b x q e => hk b x (by simpa using q) e))

/-- a while, by what holds between its turns and a number that falls -/
theorem whileW {test : Expr} {body : List Stmt} {env : Env} {R : Result → Shared → Prop} (st : St gE hE S g L m mu h)
    (J : Nat → Heap → (Str → Option Value) → List (Addr × Obj) → Prop) (k₀ : Nat) (j0 : J k₀ g m mu)
    (turn : ∀ (k : Nat) (g₁ h₁ : Heap) (m₁ : Str → Option Value) (mu₁ : List (Addr × Obj)) (tk₁ : Nat) (E : Value → Shared → Prop), J k g₁ m₁ mu₁ → Sub g g₁ → St gE hE S g₁ L m₁ mu₁ h₁ →
      ∀ Z : Flow → Shared → Prop, (∀ f k' g₂ h₂ m₂ mu₂ tk₂, isNx f = true → k' < k → Sub g₁ g₂ → St gE hE S g₂ L m₂ mu₂ h₂ → J k' g₂ m₂ mu₂ → Z f ⟨h₂, gs, dr, tk₂, os⟩) → (∀ s, R (.ok .next) s → Z .brk s) → (∀ v s, R (.ok (.ret v)) s → Z (.ret v) s) →
      wpAny (model prog w) A (isTrue test env (eval test env)) (fun b s₂ => if b = true then wpAny (model prog w) A (execs body env) Z E s₂ else R (.ok .next) s₂) E ⟨h₁, gs, dr, tk₁, os⟩) :
    codeAny (model prog w) A (.whileLoop test body [] env) R ⟨h, gs, dr, tk, os⟩ := by
  refine codeAny_whileLoop (fun k s' => ∃ g₁ h₁ m₁ mu₁ tk₁, s' = ⟨h₁, gs, dr, tk₁, os⟩ ∧ J k g₁ m₁ mu₁ ∧ Sub g g₁ ∧ St gE hE S g₁ L m₁ mu₁ h₁) ?_ k₀ ⟨g, h, m, mu, tk, rfl, j0, Sub.rfl, st⟩
  rintro k s' ⟨g₁, h₁, m₁, mu₁, tk₁, rfl, j, sg, st₁⟩
  refine wpAny_mono (turn k g₁ h₁ m₁ mu₁ tk₁ _ j sg st₁ (fun f s₃ => match f with
    | .next | .cont => ∃ k' g₂ h₂ m₂ mu₂ tk₂, k' < k ∧ s₃ = (⟨h₂, gs, dr, tk₂, os⟩ : Shared) ∧ Sub g₁ g₂ ∧ St gE hE S g₂ L m₂ mu₂ h₂ ∧ J k' g₂ m₂ mu₂
    | .brk => R (.ok .next) s₃
    | .ret v => R (.ok (.ret v)) s₃) (fun f k' g₂ h₂ m₂ mu₂ tk₂ hf a b c d => ?_) (fun _ x => x) fun _ _ x => x) (fun b s₂ q => ?_) fun _ _ e => e
  · cases f with
    | next => exact ⟨k', g₂, h₂, m₂, mu₂, tk₂, a, rfl, b, c, d⟩
    | cont => exact ⟨k', g₂, h₂, m₂, mu₂, tk₂, a, rfl, b, c, d⟩
    | brk => cases hf
    | ret v => cases hf
  cases b with
  | false => exact wpAny_execs_nil q
  | true =>
    refine wpAny_mono q (fun f s₃ z => ?_) fun _ _ e => e
    have fin : (∃ k' g₂ h₂ m₂ mu₂ tk₂, k' < k ∧ s₃ = (⟨h₂, gs, dr, tk₂, os⟩ : Shared) ∧ Sub g₁ g₂ ∧ St gE hE S g₂ L m₂ mu₂ h₂ ∧ J k' g₂ m₂ mu₂) →
        ∃ k', k' < k ∧ ∃ g₁ h₁ m₁ mu₁ tk₁, s₃ = (⟨h₁, gs, dr, tk₁, os⟩ : Shared) ∧ J k' g₁ m₁ mu₁ ∧ Sub g g₁ ∧ St gE hE S g₁ L m₁ mu₁ h₁ := by
      rintro ⟨k', g₂, h₂, m₂, mu₂, tk₂, hk, rfl, sg₂, st₂, j₂⟩
      exact ⟨k', hk, g₂, h₂, m₂, mu₂, tk₂, rfl, j₂, sg.trans sg₂, st₂⟩
    cases f with
    | next => exact fin z
    | cont => exact fin z
    | brk => exact z
    | ret v => exact z

noncomputable abbrev testsOf (ifs : List Expr) (cenv : Env) : Sem Bool := forIn ifs true fun c r => if r = true then do let ok ← isTrue c cenv (eval c cenv); pure (ForInStep.yield ok) else pure (ForInStep.yield r)

/-- the loop of a list comprehension, in its own frame C -/
theorem compLoopW {elt target iter : Expr} {ifs : List Expr} {scope : Scope} {pos : Pos} {cenv : Env} {I D C : Addr} {fp : List Addr} {n : Nat} {P : Nat → Value → Prop} {Si : Nat → Heap → Prop} {R : Result → Shared → Prop} {oI : Obj} {h₀ : Heap}
    (W : Walks prog w A I fp [I] n P Si) (hn : n ≤ sizeLine) (hfp : ∀ b ∈ fp, b = I ∨ ∃ o, g.get? b = some o) (hob : ∀ i h, Si i h → ∃ o, h.get? I = some o)
    (st : St g h S g C m ((D, lst #[] 0) :: (I, oI) :: mu) h₀) (h0 : Si 0 h₀)
    (J : Nat → Heap → List Value → List (Addr × Obj) → Prop) (j0 : J 0 g [] mu)
    (turn : ∀ (i : Nat) (v : Value) (g₁ h₁ : Heap) (m₁ : Str → Option Value) (mu₁ : List (Addr × Obj)) (tk₁ : Nat) (oI : Obj) (ys : List Value) (na : Nat) (E : Value → Shared → Prop), i < n → P i v → J i g₁ ys mu₁ → Sub g g₁ → ys.length ≤ i → St g h S g₁ C m₁ ((D, lst ys.toArray na) :: (I, oI) :: mu₁) h₁ →
      wpAny (model prog w) A (assign target cenv v) (fun _ s₂ => wpAny (model prog w) A (testsOf ifs cenv) (fun ok s₃ =>
        if ok = true then wpAny (model prog w) A (eval elt cenv) (fun y s₄ => ∃ g₂ h₂ m₂ mu₂ tk₂, s₄ = ⟨h₂, gs, dr, tk₂, os⟩ ∧ Sub g₁ g₂ ∧ St g h S g₂ C m₂ ((D, lst ys.toArray na) :: (I, oI) :: mu₂) h₂ ∧ J (i + 1) g₂ (ys ++ [y]) mu₂) E s₃
        else ∃ g₂ h₂ m₂ mu₂ tk₂, s₃ = ⟨h₂, gs, dr, tk₂, os⟩ ∧ Sub g₁ g₂ ∧ St g h S g₂ C m₂ ((D, lst ys.toArray na) :: (I, oI) :: mu₂) h₂ ∧ J (i + 1) g₂ ys mu₂) E s₂) E ⟨h₁, gs, dr, tk₁, os⟩)
    (done : ∀ g₁ h₁ m₁ mu₁ tk₁ ys na, J n g₁ ys mu₁ → Sub g g₁ → ys.length ≤ n → St g h S g₁ C m₁ ((D, lst ys.toArray na) :: mu₁) h₁ → R (.ok .next) ⟨h₁, gs, dr, tk₁, os⟩)
    (ht : ∀ v, letOwnedTupleGo target (.ref I) v = pure ()) : codeAny (model prog w) A (.compLoop (.ListComp elt [⟨target, iter, ifs, 0⟩] scope pos) 0 (.ref I) (.ref D) cenv) R ⟨h₀, gs, dr, tk, os⟩ := by
  refine codeAny_compLoop_tests (CompJ n Si h S g C D I gs dr os J) ?_ n
    ⟨0, g, h₀, m, mu, tk, oI, [], 0, rfl, Nat.zero_le _, rfl, j0, Sub.rfl, Nat.le_refl _, st, h0⟩ ht
  rintro k s' ⟨i, g₁, h₁, m₁, mu₁, tk₁, oI, ys, na, rfl, hi, rfl, j, sg, hlen, st₁, si⟩
  by_cases hlt : i < n
  · refine W.item i _ _ _ hlt si fun v h₂ tk₂ hp si₂ hk => ?_
    dsimp only
    obtain ⟨o', ho'⟩ := hob _ _ si₂
    have st₂ : St g h S g₁ C m₁ ((D, lst ys.toArray na) :: (I, o') :: mu₁) h₂ := by
      have a := (st₁.perm (.swap ..)).move (fun b x q e => hk b x (by simpa using q) e) ho'
      exact a.perm (.swap ..)
    have back : ∀ (s₄ : Shared) (ys' : List Value), (∃ g₂ h₂ m₂ mu₂ tk₂ na', s₄ = ⟨h₂, gs, dr, tk₂, os⟩ ∧ Sub g₁ g₂ ∧ ys'.length ≤ i + 1 ∧ St g h S g₂ C m₂ ((D, lst ys'.toArray na') :: (I, o') :: mu₂) h₂ ∧ J (i + 1) g₂ ys' mu₂) →
        ∃ k', k' < n - i ∧ CompJ n Si h S g C D I gs dr os J k' s₄ := by
      rintro s₄ ys' ⟨g₂, h₃, m₂, mu₂, tk₃, na', rfl, sg₂, hl, st₃, j₂⟩
      refine ⟨n - (i + 1), by omega, i + 1, g₂, h₃, m₂, mu₂, tk₃, o', ys', na', rfl, hlt, rfl, j₂, sg.trans sg₂, hl, st₃, W.frame _ _ _ si₂ fun b hb o e => ?_⟩
      rcases hfp b hb with rfl | ⟨x, hx⟩
      · rw [ho'] at e; cases e
        exact (st₃.own.mem _ (.tail _ (.head _))).1
      · have h1 := st₂.own.keep b x (sg b x hx)
        rw [h1] at e; cases e
        exact st₃.own.keep b _ (sg₂ b _ (sg b _ hx))
    refine wpAny_mono (turn i v g₁ h₂ m₁ mu₁ tk₂ o' ys na _ hlt hp j sg hlen st₂) (fun _ s₃ q => wpAny_mono q (fun ok s₄ z => ?_) fun _ _ e => e) fun _ _ e => e
    cases ok with
    | false =>
      obtain ⟨g₂, h₃, m₂, mu₂, tk₃, e, sg₂, st₃, j₂⟩ := z
      exact back s₄ ys ⟨g₂, h₃, m₂, mu₂, tk₃, na, e, sg₂, Nat.le_succ_of_le hlen, st₃, j₂⟩
    | true =>
      refine wpAny_mono z (fun y s₅ z => ?_) fun _ _ e => e
      obtain ⟨g₂, h₃, m₂, mu₂, tk₃, rfl, sg₂, st₃, j₂⟩ := z
      refine append_at (s := ⟨h₃, gs, dr, tk₃, os⟩) (st₃.own.mem _ (.head _)).1 (fun h₄ hs₄ ho₄ => ?_) (by simp; omega)
      refine back _ (ys ++ [y]) ⟨g₂, h₄, m₂, mu₂, tk₃, na + 1, rfl, sg₂, by simp; omega, ?_, j₂⟩
      have := st₃.upd 0 (o' := lst (ys ++ [y]).toArray (na + 1)) rfl hs₄ (by rw [ho₄]; simp [lst])
      exact this
  · have e : i = n := by omega
    subst e
    refine W.done _ _ _ si fun h₂ tk₂ hk => ?_
    refine done g₁ h₂ m₁ mu₁ tk₂ ys na j sg hlen ?_
    exact (st₁.perm (.swap ..)).moveD fun b x q e => hk b x (by simpa using q) e

theorem c1 {b n c : Nat} (h : b < n) (e : n + 1 = c) : b ≠ c := by omega
theorem c2 {n c : Nat} (e : n + 1 = c) : n ≠ c := by omega
theorem c3 {n c : Nat} (e : n + 1 = c) : n ≤ c := by omega
theorem c4 {b n c : Nat} (h : b < n) (e : n + 1 = c) : c ≠ b := by omega
theorem c5 {b n c : Nat} (h : b ≤ n) (e : n + 1 = c) : b ≤ c := by omega
/-- what stands behind a comprehension's block, with or without a name that takes it -/
noncomputable def compUse (env : Env) : Option (Str × Pos) → Option (Value → Sem Unit)
  | none => none
  | some (y, py) => some (assign (.Name y py) env)

theorem compBlk {E : Value → Shared → Prop} {elt target iter : Expr} {ifs : List Expr} {scope : Scope} {pos : Pos} {env : Env} {cl : List (Str × Addr)} {I : Addr} {fp : List Addr} {n : Nat} {P : Nat → Value → Prop} {Si : Nat → Heap → Prop} {oI : Obj} {Q : Value → Shared → Prop}
    (use : Option (Str × Pos)) (W : Walks prog w A I fp [I] n P Si) (hn : n ≤ sizeLine) (hfp : ∀ b ∈ fp, b = I ∨ ∃ o, g.get? b = some o) (hob : ∀ i h, Si i h → ∃ o, h.get? I = some o)
    (hcell : ∀ x ∈ scope.names, x.2 ≠ .cell) (hkind : scope.kind = .function) (hL : env.locals = L)
    (huse : ∀ y py, use = some (y, py) → env.kindOf y = some .local ∧ env.scope.kind = .function)
    (st : St gE hE S g L m ((I, oI) :: mu) h) (h0 : Si 0 h)
    (J : Nat → Heap → List Value → List (Addr × Obj) → Prop) (j0 : J 0 g [] mu)
    (turn : ∀ (C i : Nat) (v : Value) (g₁ h₁ : Heap) (m₁ : Str → Option Value) (mu₁ : List (Addr × Obj)) (tk₁ : Nat) (oI : Obj) (ys : List Value) (na : Nat) (E : Value → Shared → Prop), i < n → P i v → J i g₁ ys mu₁ → Sub g g₁ → ys.length ≤ i → (∀ b o, h.get? b = some o → b ∉ I :: mu.map (·.1) → h₁.get? b = some o) → St g h (I :: mu.map (·.1)) g₁ C m₁ ((h.objs.size, lst ys.toArray na) :: (I, oI) :: mu₁) h₁ →
      wpAny (model prog w) A (assign target (compEnvC scope cl C env) v) (fun _ s₂ => wpAny (model prog w) A (testsOf ifs (compEnvC scope cl C env)) (fun ok s₃ =>
        if ok = true then wpAny (model prog w) A (eval elt (compEnvC scope cl C env)) (fun y s₄ => ∃ g₂ h₂ m₂ mu₂ tk₂, s₄ = ⟨h₂, gs, dr, tk₂, os⟩ ∧ Sub g₁ g₂ ∧ St g h (I :: mu.map (·.1)) g₂ C m₂ ((h.objs.size, lst ys.toArray na) :: (I, oI) :: mu₂) h₂ ∧ J (i + 1) g₂ (ys ++ [y]) mu₂) E s₃
        else ∃ g₂ h₂ m₂ mu₂ tk₂, s₃ = ⟨h₂, gs, dr, tk₂, os⟩ ∧ Sub g₁ g₂ ∧ St g h (I :: mu.map (·.1)) g₂ C m₂ ((h.objs.size, lst ys.toArray na) :: (I, oI) :: mu₂) h₂ ∧ J (i + 1) g₂ ys mu₂) E s₂) E ⟨h₁, gs, dr, tk₁, os⟩)
    (done : ∀ g₁ h₁ mu₁ tk₁ ys na, J n g₁ ys mu₁ → Sub g g₁ → ys.length ≤ n → match use with
      | none => St gE hE S g₁ L m ((h.objs.size, lst ys.toArray na) :: mu₁) h₁ → Q (.ref h.objs.size) ⟨h₁, gs, dr, tk₁, os⟩
      | some (y, _) => St gE hE S g₁ L (upd m y (.ref h.objs.size)) ((h.objs.size, lst ys.toArray na) :: mu₁) h₁ → Q .none ⟨h₁, gs, dr, tk₁, os⟩)
    (ht : ∀ v, letOwnedTupleGo target (.ref I) v = pure ()) :
    wpAny (model prog w) A (newList []) (fun acc s₃ => wpAny (model prog w) A (newFunctionEnv scope env.globals cl [] env.qual none .none (some env)) (fun cenv s₄ =>
      codeAny (model prog w) A (.compStart (.ListComp elt [⟨target, iter, ifs, 0⟩] scope pos) 0 (.ref I) acc { cenv with scope := relabel scope env }) (compPost (model prog w) A E (compUse env use) Q acc cenv.locals) s₄) E s₃) E ⟨h, gs, dr, tk, os⟩ := by
  refine wpAny_newObj_type (s := ⟨h, gs, dr, tk, os⟩) (wpAny_newFunctionEnv hcell (by intro y hy; simp at hy) (fun h₁ hns₁ hsb₁ => ?_) hkind)
  dsimp only at hns₁ hsb₁ ⊢
  generalize hC : (h.push { cls := .type "list", dict := none, data := .seq ([] : List Value).toArray }).objs.size = C at hns₁ hsb₁ ⊢
  rw [Heap.size_push] at hC
  -- the two new objects, in the block's own sight
  have k₁ : ∀ b o, h.get? b = some o → h₁.get? b = some o := fun b o e => hsb₁.extBut b o (c1 (Heap.lt_size e) hC) (Heap.get?_push_of_some _ (Heap.get?_push_of_some _ e))
  have hD : h₁.get? h.objs.size = some (lst #[] 0) := hsb₁.extBut _ _ (c2 hC) (Heap.get?_push_of_some _ (Heap.get?_push_size _ rfl))
  have gnone : ∀ a, h.objs.size ≤ a → g.get? a = none := fun a ha => by
    cases q : g.get? a with
    | none => rfl
    | some x => exact absurd (Heap.lt_size (st.own.keep _ _ q)) (Nat.not_lt.mpr ha)
  have si : St g h (I :: mu.map (·.1)) g C (fun x => ([] : List (Str × Value)).reverse.lookup x) ((h.objs.size, lst #[] 0) :: (I, oI) :: mu) h₁ := by
    refine ⟨⟨st.own.keep.trans k₁, fun p hp => ?_, ?_⟩, ⟨Sub.rfl, fun _ _ => rfl, fun b o e _ => k₁ b o e, Nat.le_of_lt (Nat.lt_of_le_of_lt (c3 hC) hns₁.lt)⟩, hns₁, gnone _ (c3 hC), c3 hC, fun p hp => ?_⟩
    · rcases List.mem_cons.mp hp with rfl | hp
      · exact ⟨hD, gnone _ (Nat.le_refl _)⟩
      · exact ⟨k₁ _ _ (st.own.mem p hp).1, (st.own.mem p hp).2⟩
    · rw [List.map_cons, List.nodup_cons]
      refine ⟨fun q => ?_, st.own.nd⟩
      obtain ⟨p, hp, e⟩ := List.mem_map.mp q
      have := Heap.lt_size (st.own.mem p hp).1
      rw [e] at this
      exact Nat.lt_irrefl _ this
    · rcases List.mem_cons.mp hp with rfl | hp
      · exact ⟨c2 hC, .inr (Nat.le_refl _)⟩
      · have := Heap.lt_size (st.own.mem p hp).1
        exact ⟨c1 this hC, .inl (by have := List.mem_map_of_mem (f := (·.1)) hp; simpa using this)⟩
  have loop : codeAny (model prog w) A (.compLoop (.ListComp elt [⟨target, iter, ifs, 0⟩] scope pos) 0 (.ref I) (.ref h.objs.size) (compEnvC scope cl C env)) (compPost (model prog w) A E (compUse env use) Q (.ref h.objs.size) C) ⟨h₁, gs, dr, tk + ([] : List (Str × Value)).length, os⟩ := by
    have h0' : Si 0 h₁ := W.frame _ _ _ h0 fun b _ o e => k₁ b o e
    refine compLoopW W hn hfp hob si h0' J j0 (fun i v g₁ h₂ m₁ mu₁ tk₁ oI ys na E' a b c d e f => turn C i v g₁ h₂ m₁ mu₁ tk₁ oI ys na E' a b c d e f.step.frame f) (fun g₁ h₂ m₁ mu₁ tk₁ ys na j sg hl si₂ => ?_) ht
    have so := st.outer si₂
    have nC := si₂.gl
    have CL : C ≠ L := c4 st.ns.lt hC
    have mC : ∀ p ∈ (h.objs.size, lst ys.toArray na) :: mu₁, p.1 ≠ C := fun p hp => (si₂.ml p hp).1
    have hC' : hE.objs.size ≤ C := c5 st.step.size hC
    have dn := done g₁
    cases use with
    | none => exact ⟨m₁, si₂.ns, fun h₃ hs => dn h₃ mu₁ tk₁ ys na j sg hl (so.other nC CL mC hC' hs)⟩
    | some yp =>
      obtain ⟨y, py⟩ := yp
      obtain ⟨u1, u2⟩ := huse y py rfl
      subst hL
      show wpAny _ _ (assign (.Name y py) env (.ref h.objs.size)) _ _ _
      refine wpAny_assign_Name (wpAny_storeName_local u1 so.ns (fun h₃ hn₃ hs₃ => ⟨m₁, si₂.ns.sameBut hs₃ CL, fun h₄ hs₄ => ?_⟩) (by rw [u2]; rfl))
      exact dn h₄ mu₁ (tk₁ + 1) ys na j sg hl ((so.set hn₃ hs₃).other nC CL mC hC' hs₄)
  exact codeAny_compStart_list loop (W.self 0 _ _ _ (W.frame _ _ _ h0 fun b _ o e => k₁ b o e) loop)

theorem evComp {E : Value → Shared → Prop} {s : Shared} {elt target iter : Expr} {ifs : List Expr} {scope : Scope} {pos : Pos} {env : Env} {cl : List (Str × Addr)} {Q : Value → Shared → Prop}
    (hclos : closureFor scope env = pure cl) (hkind : scope.kind = .function) (hnames : ∀ x ∈ scope.names, x.2 = .local → scope.names.lookup x.1 = some .local) (hs : ∀ x, foldedSetIterable iter env x = pure x)
    (h : wpAny (model prog w) A (eval iter env) (fun x s₁ => wpAny (model prog w) A (pyIter x) (fun it s₂ => wpAny (model prog w) A (newList []) (fun acc s₃ => wpAny (model prog w) A (newFunctionEnv scope env.globals cl [] env.qual none .none (some env)) (fun cenv s₄ =>
      codeAny (model prog w) A (.compStart (.ListComp elt [⟨target, iter, ifs, 0⟩] scope pos) 0 it acc { cenv with scope := relabel scope env }) (compPost (model prog w) A E (compUse env none) Q acc cenv.locals) s₄) E s₃) E s₂) E s₁) E s) :
    wpAny (model prog w) A (eval (.ListComp elt [⟨target, iter, ifs, 0⟩] scope pos) env) Q E s := by
  rw [eval_ListComp]
  exact wpAny_comprehension_free (use := none) rfl hs hclos hkind hnames h
theorem exComp {E : Value → Shared → Prop} {s : Shared} {elt target iter : Expr} {ifs : List Expr} {scope : Scope} {pos : Pos} {env : Env} {cl : List (Str × Addr)} {Q : Flow → Shared → Prop} {y : Str} {py spos : Pos}
    (hsw : swapsWith (.ListComp elt [⟨target, iter, ifs, 0⟩] scope pos) (some (.Name y py)) spos.line env = pure true)
    (hclos : closureFor scope env = pure cl) (hkind : scope.kind = .function) (hnames : ∀ x ∈ scope.names, x.2 = .local → scope.names.lookup x.1 = some .local) (hs : ∀ x, foldedSetIterable iter env x = pure x)
    (h : wpAny (model prog w) A (eval iter env) (fun x s₁ => wpAny (model prog w) A (pyIter x) (fun it s₂ => wpAny (model prog w) A (newList []) (fun acc s₃ => wpAny (model prog w) A (newFunctionEnv scope env.globals cl [] env.qual none .none (some env)) (fun cenv s₄ =>
      codeAny (model prog w) A (.compStart (.ListComp elt [⟨target, iter, ifs, 0⟩] scope pos) 0 it acc { cenv with scope := relabel scope env }) (compPost (model prog w) A E (compUse env (some (y, py))) (fun _ => Q .next) acc cenv.locals) s₄) E s₃) E s₂) E s₁) E s) :
    wpAny (model prog w) A (exec (.Assign [.Name y py] (.ListComp elt [⟨target, iter, ifs, 0⟩] scope pos) spos) env) Q E s := by
  rw [exec_Assign_Name_used _ _ _ _ hsw]
  refine wpAny_bind (wpAny_standAt (wpAny_bind ?_))
  show wpAny _ A (do let _ ← comprehension (.ListComp elt [⟨target, iter, ifs, 0⟩] scope pos) scope env _ (newList []) false (eval iter env) (some (assign (.Name y py) env))) _ _ s
  exact wpAny_bind (wpAny_mono (wpAny_comprehension_free (use := some (assign (.Name y py) env)) (Q := fun _ s' => Q .next s') rfl hs hclos hkind hnames h) (fun _ s' hq => wpAny_pure (wpAny_pure hq)) fun _ _ e => e)
end
end
-- B3
section
/-- v may be gone through: n items of the kind P, v itself frozen in g -/
noncomputable def Iter (prog : Program) (w : World) (A : Around) (v : Value) (g : Heap) (n : Nat) (P : Nat → Value → Prop) : Prop :=
  ∀ {E : Value → Shared → Prop} {Q : Value → Shared → Prop} {gE hE h : Heap} {S : List Addr} {L : Addr} {m : Str → Option Value} {mu : List (Addr × Obj)} {gs : Array GenState} {dr : Drawn} {tk : Nat} {os : OsState},
    St gE hE S g L m mu h → (∀ (I : Addr) (h' : Heap) (tk' : Nat) (fp : List Addr) (Si : Nat → Heap → Prop) (oI : Obj), Walks prog w A I fp [I] n P Si → (∀ b ∈ fp, b = I ∨ ∃ o, g.get? b = some o) → (∀ i h, Si i h → ∃ o, h.get? I = some o) → Si 0 h' →
      (∀ ht, ht = h.objs.size → ht ≤ I) → St gE hE S g L m ((I, oI) :: mu) h' → Q (.ref I) ⟨h', gs, dr, tk', os⟩) → wpAny (model prog w) A (pyIter v) Q E ⟨h, gs, dr, tk, os⟩

section
variable {prog : Program} {w : World} {A : Around} {gE hE g h : Heap} {S : List Addr} {L : Addr} {m : Str → Option Value} {mu : List (Addr × Obj)} {gs : Array GenState} {dr : Drawn} {tk : Nat} {os : OsState}

theorem le_of_eq' {a b : Nat} (h : a = b) : a ≤ b := Nat.le_of_eq h
theorem Iter.list {l : Addr} {items : Array Value} (hh : A.handled = none) (hl : g.IsList l items) : Iter prog w A (.ref l) g items.size (fun i v => items[i]? = some v) := by
  intro E Q gE hE h S L m mu gs dr tk os st k
  have hls : h.IsList l items := hl.at fun o e => st.own.keep l o e
  obtain ⟨ol, hol, _⟩ := id hl
  have hne : l ≠ h.objs.size := Nat.ne_of_lt (Heap.lt_size (st.own.keep _ _ hol))
  refine wpAny_pyIter_list (s := ⟨h, gs, dr, tk, os⟩) hls (k _ _ _ _ _ _ (Walks.list hh _ l hne items) ?_ (fun i h x => let ⟨o, ho, _⟩ := x.1; ⟨o, ho⟩) ⟨⟨_, Heap.get?_push_size _ rfl, rfl, rfl⟩, hls.at fun o e => Heap.get?_push_of_some _ e⟩ (fun _ e => Nat.le_of_eq e) (st.new _))
  intro b hb
  rcases List.mem_cons.mp hb with e | e
  · exact .inl e
  · exact .inr ⟨ol, by rw [List.mem_singleton.mp e]; exact hol⟩
theorem Iter.tup {l : Addr} {items : Array Value} (hh : A.handled = none) (hl : g.IsTuple l items) : Iter prog w A (.ref l) g items.size (fun i v => items[i]? = some v) := by
  intro E Q gE hE h S L m mu gs dr tk os st k
  have hls : h.IsTuple l items := hl.at fun o e => st.own.keep l o e
  obtain ⟨ol, hol, _⟩ := id hl
  have hne : l ≠ h.objs.size := Nat.ne_of_lt (Heap.lt_size (st.own.keep _ _ hol))
  refine wpAny_pyIter_tuple (s := ⟨h, gs, dr, tk, os⟩) hls (k _ _ _ _ _ _ (Walks.tuple hh _ l hne items) ?_ (fun i h x => let ⟨o, ho, _⟩ := x.1; ⟨o, ho⟩) ⟨⟨_, Heap.get?_push_size _ rfl, rfl, rfl⟩, hls.at fun o e => Heap.get?_push_of_some _ e⟩ (fun _ e => Nat.le_of_eq e) (st.new _))
  intro b hb
  rcases List.mem_cons.mp hb with e | e
  · exact .inl e
  · exact .inr ⟨ol, by rw [List.mem_singleton.mp e]; exact hol⟩
theorem Iter.dict {d : Addr} {kvs : List (List UInt8 × Value)} (hh : A.handled = none) (lo : (d == sysModules) = false) (hl : g.DictOf (bytesKind prog w) d kvs) : Iter prog w A (.ref d) g kvs.length (fun i v => ∃ k x t, kvs[i]? = some (k, x) ∧ v = .bytes k.toArray t) := by
  intro E Q gE hE h S L m mu gs dr tk os st k
  obtain ⟨ep, ha⟩ := hl.dictAt
  have hls : h.DictAt (bytesKind prog w) d kvs ep := ha.at' fun o e => st.own.keep d o e
  obtain ⟨ol, es, hol, _⟩ := id ha
  have hne : d ≠ h.objs.size := Nat.ne_of_lt (Heap.lt_size (st.own.keep _ _ hol))
  have W := Walks.dictKeys (prog := prog) (w := w) (knd := bytesKind prog w) hh h.objs.size d hne kvs ep
  have W' : Walks prog w A h.objs.size [h.objs.size, d] [h.objs.size] kvs.length (fun i v => ∃ k x t, kvs[i]? = some (k, x) ∧ v = .bytes k.toArray t) (fun i h' => h'.IsKeyIter h.objs.size d i kvs.length ep ∧ h'.DictAt (bytesKind prog w) d kvs ep) :=
    ⟨W.sub, W.frame, fun i s Q E hi si hQ => W.item i s Q E hi si fun v h' tk hp => hQ v h' tk (by
      obtain ⟨k, x, a, b⟩ := hp
      obtain ⟨t, rfl⟩ := isBytes_shape b
      exact ⟨k, x, t, a, rfl⟩), W.done, W.self⟩
  refine wpAny_pyIter_dict (s := ⟨h, gs, dr, tk, os⟩) lo hls (k _ _ _ _ _ _ W' ?_ (fun i h x => let ⟨o, ho, _⟩ := x.1; ⟨o, ho⟩) ⟨⟨_, Heap.get?_push_size _ rfl, rfl, rfl⟩, hls.at' fun o e => Heap.get?_push_of_some _ e⟩ (fun _ e => Nat.le_of_eq e) (st.new _))
  intro b hb
  rcases List.mem_cons.mp hb with e | e
  · exact .inl e
  · exact .inr ⟨ol, by rw [List.mem_singleton.mp e]; exact hol⟩
theorem Iter.bytes {b : List UInt8} {t : Tok} (hh : A.handled = none) : Iter prog w A (.bytes b.toArray t) g b.length (fun i v => ∃ c u, b[i]? = some c ∧ v = .int (c.toNat : Int) u) := by
  intro E Q gE hE h S L m mu gs dr tk os st k
  have W := KBw.walks (prog := prog) (w := w) hh h.objs.size b.toArray t
  have W' : Walks prog w A h.objs.size [h.objs.size] [h.objs.size] b.length (fun i v => ∃ c u, b[i]? = some c ∧ v = .int (c.toNat : Int) u) (fun i h' => KBw.IsBytesIter h' h.objs.size b.toArray t i) := by simpa using W
  refine KBw.pyIter_bytes (s := ⟨h, gs, dr, tk, os⟩) (k _ _ _ _ _ _ W' (fun b hb => .inl (by simpa using hb)) (fun i h x => let ⟨o, ho, _⟩ := x; ⟨o, ho⟩) ⟨_, Heap.get?_push_size _ rfl, rfl, rfl⟩ (fun _ e => Nat.le_of_eq e) (st.new _))
theorem Iter.range {r : Addr} {n : Nat} {t u v : Tok} (hh : A.handled = none) (hsz : Builtin.Range.rangeSize 0 n 1 = (n : Int)) (hsm : Builtin.Range.small 0 n 1 = true) (hr : IsRange g r 0 n 1 t u v) : Iter prog w A (.ref r) g n (fun i v => ∃ t, v = .int (i : Int) t) := by
  intro E Q gE hE h S L m mu gs dr tk os st k
  have W := Walks.range (prog := prog) (w := w) hh h.objs.size 0 1 n
  have W' : Walks prog w A h.objs.size [h.objs.size] [h.objs.size] n (fun i v => ∃ t, v = .int (i : Int) t) (fun i h' => IsRangeIter h' h.objs.size (0 + (i : Nat) * 1) ((n : Int) - (i : Nat)) 1) :=
    ⟨W.sub, W.frame, fun i s Q E hi si hQ => W.item i s Q E hi si fun v h' tk hp => hQ v h' tk (by
      obtain ⟨t, e⟩ := hp
      exact ⟨t, by rw [e, Int.mul_one, Int.zero_add]⟩), W.done, W.self⟩
  have hr' : IsRange h r 0 n 1 t u v := st.own.keep _ _ hr
  refine wpAny_pyIter_range (s := ⟨h, gs, dr, tk, os⟩) hr' hsm (k _ _ _ _ _ _ W' (fun b hb => .inl (by simpa using hb)) (fun i h x => ⟨_, x⟩) ?_ (fun _ e => Nat.le_of_eq e) (st.new _))
  rw [hsz]
  show (h.push _).get? _ = _
  rw [Heap.get?_push_size _ rfl]
  simp [rawInt]
theorem Iter.str {x : Str} {t : Tok} (hh : A.handled = none) (ha : x.cps.all (· < 128) = true) : Iter prog w A (.str x t) g x.cps.size (SignAt x) := by
  intro E Q gE hE h S L m mu gs dr tk os st k
  exact wpAny_pyIter_ascii (s := ⟨h, gs, dr, tk, os⟩) ha (k _ _ _ _ _ _ (Walks.strAscii hh _ x t) (fun b hb => .inl (by simpa using hb)) (fun i h x => let ⟨o, ho, _⟩ := x; ⟨o, ho⟩) ⟨_, Heap.get?_push_size _ rfl, rfl, rfl⟩ (fun _ e => Nat.le_of_eq e) (st.new _))

/-- for target in v: body, by what holds between the turns (behind the evaluation of v) -/
theorem forI {E : Value → Shared → Prop} {E₂ : Value → Shared → Prop} {Q : Flow → Shared → Prop} {target : Expr} {body : List Stmt} {env : Env} {v : Value} {n : Nat} {P : Nat → Value → Prop}
    (it : Iter prog w A v g n P) (st : St gE hE S g L m mu h) (J : Nat → Heap → (Str → Option Value) → List (Addr × Obj) → Prop) (j0 : J 0 g m mu)
    (turn : ∀ (i : Nat) (v : Value) (I : Addr) (g₁ h₁ : Heap) (m₁ : Str → Option Value) (mu₁ : List (Addr × Obj)) (tk₁ : Nat) (oI : Obj) (E : Value → Shared → Prop), i < n → P i v → J i g₁ m₁ mu₁ → Sub g g₁ → St gE hE S g₁ L m₁ ((I, oI) :: mu₁) h₁ →
      ∀ Z : Flow → Shared → Prop, (∀ f g₂ h₂ m₂ mu₂ tk₂, isNx f = true → Sub g₁ g₂ → St gE hE S g₂ L m₂ ((I, oI) :: mu₂) h₂ → J (i + 1) g₂ m₂ mu₂ → Z f ⟨h₂, gs, dr, tk₂, os⟩) → (∀ s, Q .next s → Z .brk s) → (∀ v s, Q (.ret v) s → Z (.ret v) s) →
      wpAny (model prog w) A (assign target env v) (fun _ s₂ => wpAny (model prog w) A (execs body env) Z E s₂) E ⟨h₁, gs, dr, tk₁, os⟩)
    (done : ∀ g₁ h₁ m₁ mu₁ tk₁, J n g₁ m₁ mu₁ → Sub g g₁ → St gE hE S g₁ L m₁ mu₁ h₁ → Q .next ⟨h₁, gs, dr, tk₁, os⟩)
    (ht : ∀ (I : Addr) v, letOwnedTupleGo target (.ref I) v = pure ()) :
    wpAny (model prog w) A (pyIter v) (fun it s₂ => codeAny (model prog w) A (.forLoop target it body [] env) (fun r s' => match r with | .ok f => Q f s' | .error e => E₂ e s') s₂) E ⟨h, gs, dr, tk, os⟩ := by
  refine it st fun I h' tk' fp Si oI W hfp hob h0 _ st' => ?_
  exact forW W hfp hob st' h0 J j0 (fun i v g₁ h₁ m₁ mu₁ tk₁ oI E a b c d e => turn i v I g₁ h₁ m₁ mu₁ tk₁ oI E a b c d e _ (fun f g₂ h₂ m₂ mu₂ tk₂ hf x y z => by
    cases f with
    | next => exact ⟨g₂, h₂, m₂, mu₂, tk₂, rfl, x, y, z⟩
    | cont => exact ⟨g₂, h₂, m₂, mu₂, tk₂, rfl, x, y, z⟩
    | brk => cases hf
    | ret v => cases hf) (fun _ x => x) fun _ _ x => x) done (ht I)

/-- a comprehension over v (behind the evaluation of v) -/
theorem compI {E : Value → Shared → Prop} {Q : Value → Shared → Prop} {elt target iter : Expr} {ifs : List Expr} {scope : Scope} {pos : Pos} {env : Env} {cl : List (Str × Addr)} {v : Value} {n : Nat} {P : Nat → Value → Prop}
    (use : Option (Str × Pos)) (it : Iter prog w A v g n P) (hn : n ≤ sizeLine) (hcell : (scope.names.all fun x => x.2 != .cell) = true) (hkind : scope.kind = .function) (hL : env.locals = L)
    (huse : (match use with | some (y, _) => env.kindOf y == some .local && env.scope.kind == .function | none => true) = true)
    (st : St gE hE S g L m mu h) (J : Nat → Heap → List Value → List (Addr × Obj) → Prop) (j0 : J 0 g [] mu)
    (turn : ∀ (h₀ : Heap) (S₀ : List Addr) (C D I i : Nat) (v : Value) (g₁ h₁ : Heap) (m₁ : Str → Option Value) (mu₁ : List (Addr × Obj)) (tk₁ : Nat) (oI₀ oI : Obj) (ys : List Value) (na : Nat) (E : Value → Shared → Prop), i < n → P i v → J i g₁ ys mu₁ → Sub g g₁ → ys.length ≤ i →
      (∀ b o, h₀.get? b = some o → b ∉ S₀ → h₁.get? b = some o) → St gE hE S g L m ((I, oI₀) :: mu) h₀ → S₀ = I :: mu.map (·.1) → St g h₀ S₀ g₁ C m₁ ((D, lst ys.toArray na) :: (I, oI) :: mu₁) h₁ →
      ∀ (Z : Value → Shared → Prop) (Zn : Shared → Prop), (∀ y g₂ h₂ m₂ mu₂ tk₂, Sub g₁ g₂ → St g h₀ S₀ g₂ C m₂ ((D, lst ys.toArray na) :: (I, oI) :: mu₂) h₂ → J (i + 1) g₂ (ys ++ [y]) mu₂ → Z y ⟨h₂, gs, dr, tk₂, os⟩) →
        (∀ g₂ h₂ m₂ mu₂ tk₂, Sub g₁ g₂ → St g h₀ S₀ g₂ C m₂ ((D, lst ys.toArray na) :: (I, oI) :: mu₂) h₂ → J (i + 1) g₂ ys mu₂ → Zn ⟨h₂, gs, dr, tk₂, os⟩) →
      wpAny (model prog w) A (assign target (compEnvC scope cl C env) v) (fun _ s₂ => wpAny (model prog w) A (testsOf ifs (compEnvC scope cl C env)) (fun ok s₃ =>
        if ok = true then wpAny (model prog w) A (eval elt (compEnvC scope cl C env)) Z E s₃ else Zn s₃) E s₂) E ⟨h₁, gs, dr, tk₁, os⟩)
    (done : ∀ D g₁ h₁ mu₁ tk₁ ys na, J n g₁ ys mu₁ → Sub g g₁ → ys.length ≤ n → hE.objs.size ≤ D → match use with
      | none => St gE hE S g₁ L m ((D, lst ys.toArray na) :: mu₁) h₁ → Q (.ref D) ⟨h₁, gs, dr, tk₁, os⟩
      | some (y, _) => St gE hE S g₁ L (upd m y (.ref D)) ((D, lst ys.toArray na) :: mu₁) h₁ → Q .none ⟨h₁, gs, dr, tk₁, os⟩)
    (ht : ∀ (I : Addr) v, letOwnedTupleGo target (.ref I) v = pure ()) :
    wpAny (model prog w) A (pyIter v) (fun it s₂ => wpAny (model prog w) A (newList []) (fun acc s₃ => wpAny (model prog w) A (newFunctionEnv scope env.globals cl [] env.qual none .none (some env)) (fun cenv s₄ =>
      codeAny (model prog w) A (.compStart (.ListComp elt [⟨target, iter, ifs, 0⟩] scope pos) 0 it acc { cenv with scope := relabel scope env }) (compPost (model prog w) A E (compUse env use) Q acc cenv.locals) s₄) E s₃) E s₂) E ⟨h, gs, dr, tk, os⟩ := by
  refine it st fun I h' tk' fp Si oI W hfp hob h0 _ st' => ?_
  refine compBlk use W hn hfp hob (fun x hx => by simpa using List.all_eq_true.mp hcell x hx) hkind hL (fun y py e => by subst e; simpa using huse) st' h0 J j0 (fun C i v g₁ h₁ m₁ mu₁ tk₁ oI' ys na E a b c d e f st₁ => ?_) (fun g₁ h₁ mu₁ tk₁ ys na a b c => done _ g₁ h₁ mu₁ tk₁ ys na a b c st'.step.size) (ht I)
  exact turn h' (I :: mu.map (·.1)) C h'.objs.size I i v g₁ h₁ m₁ mu₁ tk₁ oI oI' ys na E a b c d e f st' rfl st₁ _ _ (fun y g₂ h₂ m₂ mu₂ tk₂ x y z => ⟨g₂, h₂, m₂, mu₂, tk₂, rfl, x, y, z⟩) fun g₂ h₂ m₂ mu₂ tk₂ x y z => ⟨g₂, h₂, m₂, mu₂, tk₂, rfl, x, y, z⟩
end
end
-- B4
section
noncomputable abbrev BK (prog : Program) (w : World) := bytesKind prog w
/-- o is a dict of bytes, and stands at d -/
noncomputable def DM (prog : Program) (w : World) (d : Addr) (o : Obj) (kvs : List (List UInt8 × Value)) : Prop := (d == sysModules) = false ∧ o.IsDictOf (bytesKind prog w) kvs
/-- at d stands a dict of bytes -/
noncomputable def DF (prog : Program) (w : World) (h : Heap) (d : Addr) (kvs : List (List UInt8 × Value)) : Prop := (d == sysModules) = false ∧ h.DictOf (bytesKind prog w) d kvs

section
variable {prog : Program} {w : World} {mg mb : Str → Option Value} {p : Program} {loose : List Str} {A : Around} {E : Value → Shared → Prop}
  {gE hE g h : Heap} {S : List Addr} {L : Addr} {m : Str → Option Value} {mu : List (Addr × Obj)} {gs : Array GenState} {dr : Drawn} {tk : Nat} {os : OsState}

theorem DF.sub {h h' : Heap} {d : Addr} {kvs : List (List UInt8 × Value)} (D : DF prog w h d kvs) (s : Sub h h') : DF prog w h' d kvs := by
  obtain ⟨a, o, es, ep, ho, r⟩ := D
  exact ⟨a, o, es, ep, s _ _ ho, r⟩
theorem St.at (st : St gE hE S g L m mu h) (i : Nat) {d : Addr} {o : Obj} (hi : mu[i]? = some (d, o)) : h.get? d = some o := (st.own.mem _ (List.mem_of_getElem? hi)).1
theorem St.dict (st : St gE hE S g L m mu h) (i : Nat) {d : Addr} {o : Obj} {kvs : List (List UInt8 × Value)} (hi : mu[i]? = some (d, o)) (D : DM prog w d o kvs) : DF prog w h d kvs := ⟨D.1, Heap.dictOf_iff.mpr ⟨o, st.at i hi, D.2⟩⟩
theorem isBy {k : List UInt8} {t : Tok} : (bytesKind prog w).is k (.bytes k.toArray t) = true := by simp [bytesKind, isBytes]

theorem St.grow' {h' : Heap} (st : St gE hE S g L m mu h) (k : Sub h h') : St gE hE S g L m mu h' :=
  ⟨⟨st.own.keep.trans k, fun p hp => ⟨k _ _ (st.own.mem p hp).1, (st.own.mem p hp).2⟩, st.own.nd⟩, ⟨st.step.sub, st.step.old, fun b o e n => k _ _ (st.step.frame b o e n), Nat.le_of_lt (Nat.lt_of_le_of_lt st.lo (st.ns.keeps k).lt)⟩, st.ns.keeps k, st.gl, st.lo, st.ml⟩

theorem Cx.big (C : Cx w mg mb p loose g) (k : Sub g h) : (h.objs.size == sysModules) = false := by
  have := modules_low (C.T.nolimit.keeps k)
  exact beq_eq_false_iff_ne.mpr (Nat.ne_of_gt this)

section dicts
variable {d : Addr} {kvs : List (List UInt8 × Value)} {k : List UInt8} {t : Tok}
theorem dIn {Q : Value → Shared → Prop} (D : DF prog w h d kvs) (hq : ∀ tk', Q (.bool (valueAt kvs k).isSome) ⟨h, gs, dr, tk', os⟩) : wpAny (model prog w) A (compareOp .In (.bytes k.toArray t) (.ref d)) Q E ⟨h, gs, dr, tk, os⟩ :=
  wpAny_in_of (s := ⟨h, gs, dr, tk, os⟩) (knd := bytesKind prog w) isBy D.1 D.2.mapOf (hq _)
theorem dNotIn {Q : Value → Shared → Prop} (D : DF prog w h d kvs) (hq : ∀ tk', Q (.bool (!(valueAt kvs k).isSome)) ⟨h, gs, dr, tk', os⟩) : wpAny (model prog w) A (compareOp .NotIn (.bytes k.toArray t) (.ref d)) Q E ⟨h, gs, dr, tk, os⟩ :=
  wpAny_notIn_of (s := ⟨h, gs, dr, tk, os⟩) (knd := bytesKind prog w) isBy D.1 D.2.mapOf (hq _)
theorem dGetItem {Q : Value → Shared → Prop} {v : Value} (D : DF prog w h d kvs) (hv : valueAt kvs k = some v) (hq : ∀ tk', Q v ⟨h, gs, dr, tk', os⟩) : wpAny (model prog w) A (getItem (.ref d) (.bytes k.toArray t)) Q E ⟨h, gs, dr, tk, os⟩ :=
  wpAny_getItem_of (s := ⟨h, gs, dr, tk, os⟩) (knd := bytesKind prog w) isBy D.2.mapOf hv (hq _)
theorem dItem {value slice : Expr} {Q : Value → Shared → Prop} {v : Value} (D : DF prog w h d kvs) (hv : valueAt kvs k = some v) (hq : ∀ tk', Q v ⟨h, gs, dr, tk', os⟩)
    (hs : subscripted slice false (.ref d) (.bytes k.toArray t) = operate [.ref d, .bytes k.toArray t] (getItem (.ref d) (.bytes k.toArray t)) := by kernel_rfl) : wpAny (model prog w) A (subscriptTail value slice (.ref d) (.bytes k.toArray t)) Q E ⟨h, gs, dr, tk, os⟩ :=
  tail_any (s := ⟨h, gs, dr, tk, os⟩) D.2.mapOf.typeIs slot_dict_getitem.lookup (dGetItem D hv hq) hs
theorem dLen {Q : Value → Shared → Prop} (D : DF prog w h d kvs) (hz : kvs.length < 1000000) (hq : ∀ tk' t', Q (.int kvs.length t') ⟨h, gs, dr, tk', os⟩) : wpAny (model prog w) A (call (.builtin "len") [.ref d]) Q E ⟨h, gs, dr, tk, os⟩ :=
  call_len_dict (s := ⟨h, gs, dr, tk, os⟩) (knd := bytesKind prog w) D.1 D.2 (by omega) (hq _ _)
theorem dSet {Q : Unit → Shared → Prop} {o : Obj} {v : Value} (st : St gE hE S g L m mu h) (i : Nat) (hi : mu[i]? = some (d, o)) (D : DM prog w d o kvs) (hz : kvs.length ≤ 1000000)
    (hq : ∀ h' o' tk', DM prog w d o' (stored kvs k v) → St gE hE S g L m (mu.set i (d, o')) h' → Q () ⟨h', gs, dr, tk', os⟩) : wpAny (model prog w) A (setItem (.ref d) (.bytes k.toArray t) v) Q E ⟨h, gs, dr, tk, os⟩ := by
  refine wpAny_setItem_pairs (s := ⟨h, gs, dr, tk, os⟩) (knd := bytesKind prog w) isBy (st.dict i hi D).2 (fun h' hd hs => ?_) (by unfold sizeLine; omega)
  obtain ⟨o', ho', r⟩ := Heap.dictOf_iff.mp hd
  exact hq h' o' _ ⟨D.1, r⟩ (st.upd i hi hs ho')
theorem dNew {env : Env} {pos : Pos} {Q : Value → Shared → Prop} (st : St gE hE S g L m mu h) (C : Cx w mg mb p loose g)
    (hq : ∀ d h' o, DM prog w d o [] → hE.objs.size ≤ d → St gE hE S g L m ((d, o) :: mu) h' → Q (.ref d) ⟨h', gs, dr, tk, os⟩) : wpAny (model prog w) A (eval (.Dict [] [] pos) env) Q E ⟨h, gs, dr, tk, os⟩ := by
  refine wpAny_Dict_empty (s := ⟨h, gs, dr, tk, os⟩) (hq _ _ _ ⟨C.big st.own.keep, ?_⟩ st.step.size (st.new _))
  obtain ⟨o, ho, r⟩ := Heap.dictOf_iff.mp (Heap.DictOf.new (knd := bytesKind prog w) h)
  rw [Heap.get?_push_size _ rfl] at ho
  cases ho
  exact r
end dicts

section seqs
variable {d : Addr} {its : List Value} {n : Nat} {x : Value}
theorem lNew {vs : List Value} {Q : Value → Shared → Prop} (st : St gE hE S g L m mu h) (hz : vs.length ≤ 1000000)
    (hq : ∀ d h', hE.objs.size ≤ d → St gE hE S g L m ((d, lst vs.toArray 0) :: mu) h' → Q (.ref d) ⟨h', gs, dr, tk, os⟩) : wpAny (model prog w) A (newList vs) Q E ⟨h, gs, dr, tk, os⟩ :=
  wpAny_newObj_type (s := ⟨h, gs, dr, tk, os⟩) (hq _ _ st.step.size (st.new _)) (by show vs.toArray.size ≤ sizeLine; rw [List.size_toArray]; unfold sizeLine; omega)
theorem tNew {vs : List Value} {Q : Value → Shared → Prop} (st : St gE hE S g L m mu h) (hz : vs.length ≤ 1000000)
    (hq : ∀ d h', hE.objs.size ≤ d → St gE hE S g L m ((d, tup vs.toArray 0) :: mu) h' → Q (.ref d) ⟨h', gs, dr, tk, os⟩) : wpAny (model prog w) A (newTuple vs) Q E ⟨h, gs, dr, tk, os⟩ :=
  wpAny_newObj_type (s := ⟨h, gs, dr, tk, os⟩) (hq _ _ st.step.size (st.new _)) (by show vs.toArray.size ≤ sizeLine; rw [List.size_toArray]; unfold sizeLine; omega)
theorem isl {its : Array Value} {h : Heap} (e : h.get? d = some (lst its n)) : h.IsList d its := ⟨_, e, rfl, n, rfl⟩
theorem ist {its : Array Value} {h : Heap} (e : h.get? d = some (tup its n)) : h.IsTuple d its := ⟨_, e, rfl, n, rfl⟩
theorem lMeth {name : Str} {id : String} {pl : Sem Bool} {Q : Value × List Value → Shared → Prop} {its : Array Value} (hl : h.get? d = some (lst its n)) (slot : Slot "list" name id) (hty : typeOf (.builtin id) = pure (.type "method_descriptor"))
    (hq : Q (.builtin id, [.ref d]) ⟨h, gs, dr, tk, os⟩) : wpAny (model prog w) A (getMethod (.ref d) name pl) Q E ⟨h, gs, dr, tk, os⟩ :=
  getMethod_builtin (s := ⟨h, gs, dr, tk, os⟩) ⟨_, hl, rfl⟩ PySem.F.plainAttrs_list slot hty (fun a e => by cases e; exact ⟨_, hl, rfl⟩) hq
theorem lAppend {Q : Value → Shared → Prop} (st : St gE hE S g L m mu h) (i : Nat) (hi : mu[i]? = some (d, lst its.toArray n)) (hz : its.length ≤ 1000000)
    (hq : ∀ h', St gE hE S g L m (mu.set i (d, lst (its ++ [x]).toArray (n + 1))) h' → Q .none ⟨h', gs, dr, tk, os⟩) : wpAny (model prog w) A (call (.builtin "list.append") [.ref d, x]) Q E ⟨h, gs, dr, tk, os⟩ := by
  refine append_at (s := ⟨h, gs, dr, tk, os⟩) (st.at i hi) (fun h' hs ho => hq h' (st.upd i hi hs ?_)) (by simp; unfold sizeLine; omega)
  rw [ho]; simp [lst]
theorem St.updL {f : Array Value → Array Value} {its its' : Array Value} (st : St gE hE S g L m mu h) (i : Nat) (hi : mu[i]? = some (d, lst its n)) (he : f its = its') : ∃ n', St gE hE S g L m (mu.set i (d, lst its' n')) (h.update d (Obj.mapSeq f)) :=
  ⟨_, st.upd i hi (Heap.SameBut.update ..) (by rw [← he]; exact PySem.IsL.update (st.at i hi) f)⟩
theorem lExtend {its2 : List Value} {b : Addr} {n2 : Nat} {Q : Value → Shared → Prop} (st : St gE hE S g L m mu h) (i : Nat) (hi : mu[i]? = some (d, lst its.toArray n)) (hb : h.get? b = some (lst its2.toArray n2)) (hz : its.length + its2.length ≤ 1000000)
    (hq : ∀ h' n', St gE hE S g L m (mu.set i (d, lst (its ++ its2).toArray n')) h' → Q .none ⟨h', gs, dr, tk, os⟩) : wpAny (model prog w) A (call (.builtin "list.extend") [.ref d, .ref b]) Q E ⟨h, gs, dr, tk, os⟩ := by
  obtain ⟨n', st'⟩ := st.updL i hi (f := fun x => x ++ its2.toArray) (its' := (its ++ its2).toArray) (by simp)
  refine call_meets (s := ⟨h, gs, dr, tk, os⟩) PySem.F.slot_list_extend ⟨_, st.at i hi, rfl⟩ PySem.F.entry_list_extend (PySem.F.args_list_extend_2 _ _) (PySem.AutoSeq1.list_extend_list_list_0 d _ n b _ n2 ?_ (by simp; unfold sizeLine; omega) (by simp; unfold sizeLine; omega)) ⟨st.at i hi, hb, hq _ n' st'⟩
  intro q
  simp [Builtin.List.listTooLong] at q
  have : sizeLine = 2 ^ 24 := rfl
  omega
theorem lPop {y : Value} {Q : Value → Shared → Prop} (st : St gE hE S g L m mu h) (i : Nat) (hi : mu[i]? = some (d, lst (its ++ [y]).toArray n)) (hz : its.length ≤ 1000000)
    (hq : ∀ h' n', St gE hE S g L m (mu.set i (d, lst its.toArray n')) h' → Q y ⟨h', gs, dr, tk, os⟩) : wpAny (model prog w) A (call (.builtin "list.pop") [.ref d]) Q E ⟨h, gs, dr, tk, os⟩ := by
  have e : (fun xs : Array Value => xs.eraseIdxIfInBounds ((its ++ [y]).toArray.size - 1)) (its ++ [y]).toArray = its.toArray := by
    show (its ++ [y]).toArray.eraseIdxIfInBounds ((its ++ [y]).toArray.size - 1) = its.toArray
    rw [show (its ++ [y]).toArray.size - 1 = its.length by simp, kl_erase, List.append_nil]
  obtain ⟨n', st'⟩ := st.updL (f := fun xs : Array Value => xs.eraseIdxIfInBounds ((its ++ [y]).toArray.size - 1)) i hi e
  exact call_meets (s := ⟨h, gs, dr, tk, os⟩) PySem.F.slot_list_pop ⟨_, st.at i hi, rfl⟩ PySem.F.entry_list_pop (PySem.F.args_list_pop_1 _) (PySem.MeetsSeq.list_pop_last d _ n y (by simp) (by simp; unfold sizeLine; omega)) ⟨st.at i hi, hq _ n' st'⟩
theorem lPop0 {y : Value} {u : Tok} {Q : Value → Shared → Prop} (st : St gE hE S g L m mu h) (i : Nat) (hi : mu[i]? = some (d, lst (y :: its).toArray n)) (hz : its.length ≤ 1000)
    (hq : ∀ h' n', St gE hE S g L m (mu.set i (d, lst its.toArray n')) h' → Q y ⟨h', gs, dr, tk, os⟩) : wpAny (model prog w) A (call (.builtin "list.pop") [.ref d, .int 0 u]) Q E ⟨h, gs, dr, tk, os⟩ := by
  have e : (fun xs : Array Value => xs.eraseIdxIfInBounds 0) (y :: its).toArray = its.toArray := kl_erase [] its y
  obtain ⟨n', st'⟩ := st.updL (f := fun xs : Array Value => xs.eraseIdxIfInBounds 0) i hi e
  exact call_meets (s := ⟨h, gs, dr, tk, os⟩) PySem.F.slot_list_pop ⟨_, st.at i hi, rfl⟩ PySem.F.entry_list_pop (PySem.F.args_list_pop_2 _ _) (PySem.MeetsSeq.list_pop_at d _ n 0 u 0 y (by decide) (by simp [seqIndex?]) (by simp) (by simp; unfold sizeLine; omega)) ⟨st.at i hi, hq _ n' st'⟩
theorem lAdd {its2 : List Value} {b : Addr} {n2 : Nat} {Q : Value → Shared → Prop} (st : St gE hE S g L m mu h) (hl : h.get? d = some (lst its.toArray n)) (hb : h.get? b = some (lst its2.toArray n2)) (hz : its.length + its2.length ≤ 1000000)
    (hq : ∀ d' h', hE.objs.size ≤ d' → St gE hE S g L m ((d', lst (its ++ its2).toArray 0) :: mu) h' → Q (.ref d') ⟨h', gs, dr, tk, os⟩) : wpAny (model prog w) A (binaryOp .Add (.ref d) (.ref b)) Q E ⟨h, gs, dr, tk, os⟩ := by
  have e : its.toArray ++ its2.toArray = (its ++ its2).toArray := by simp
  refine concat_meets (s := ⟨h, gs, dr, tk, os⟩) ⟨_, hl, rfl⟩ ⟨_, hb, rfl⟩ noFill_list_add seq_list_add PySem.F.slot_list_add PySem.F.entry_list_add (PySem.F.args_list_add_2 _ _) (list_addW d b its.toArray its2.toArray n n2 _ _ _ _ (by simp; unfold sizeLine; omega)) ⟨hl, hb, ?_⟩
  rw [e]
  exact hq _ _ st.step.size (st.new _)
/-- a name list or tuple is unpacked -/
theorem uTup {k : Nat} {Q : List Value → Shared → Prop} (st : St gE hE S g L m mu h) (hh : A.handled = none) (ht : h.get? d = some (tup its.toArray n)) (hk : its.length = k)
    (hq : ∀ h', St gE hE S g L m mu h' → Q its ⟨h', gs, dr, tk, os⟩) : wpAny (model prog w) A (unpackItems (.ref d) k none) Q E ⟨h, gs, dr, tk, os⟩ := by
  subst hk
  have := unpackItems_tuple (prog := prog) (w := w) (A := A) (E := E) (s := ⟨h, gs, dr, tk, os⟩) (t := d) (items := its.toArray) (Q := Q) hh (ist ht) fun h' k => by
    exact hq h' (st.grow' fun b o e => k b o (Nat.ne_of_lt (Heap.lt_size e)) e)
  simpa using this
theorem aTup {elts : List Expr} {x1 : Nat} {pos : Pos} {env : Env} {Q : Unit → Shared → Prop} (st : St gE hE S g L m mu h) (hh : A.handled = none) (ht : h.get? d = some (tup its.toArray n)) (hk : (assignEach elts env).length = its.length)
    (hstar : (assignEach elts env).findIdx? (·.1) = none) (hq : ∀ h', St gE hE S g L m mu h' → wpAny (model prog w) A (assignInOrder ((assignEach elts env).map (·.2)) its) Q E ⟨h', gs, dr, tk, os⟩) :
    wpAny (model prog w) A (assign (.Tuple elts x1 pos) env (.ref d)) Q E ⟨h, gs, dr, tk, os⟩ := by
  refine wpAny_assign_Tuple (s := ⟨h, gs, dr, tk, os⟩) hh (ist ht) (by simpa using hk) hstar fun h' k => ?_
  have := hq h' (st.grow' fun b o e => k b o (Nat.ne_of_lt (Heap.lt_size e)) e)
  simpa using this
end seqs
end
end
-- B5
section
theorem Rm.under {A : Around} {n : Nat} {C : Addr} {rest : List Value} (r : Rm A (n + 1)) : Rm (A.under (.builtin "type.__call__" ⟨.ref C :: rest, []⟩)) n := by
  have hw : (Code.builtin "type.__call__" ⟨.ref C :: rest, []⟩).weight ≤ 2 := by
    have : (Code.builtin "type.__call__" ⟨.ref C :: rest, []⟩).weight = (Code.builtin "type.__call__" ⟨[.ref 0], []⟩).weight := by kernel_rfl
    rw [this]; decide +kernel
  have hu : (Code.builtin "type.__call__" ⟨.ref C :: rest, []⟩).cUnits ≤ 16 := by
    have : (Code.builtin "type.__call__" ⟨.ref C :: rest, []⟩).cUnits = (Code.builtin "type.__call__" ⟨[.ref 0], []⟩).cUnits := by kernel_rfl
    rw [this]; decide +kernel
  have := r.d
  have := r.u
  refine ⟨?_, ?_, r.hh⟩
  · show A.depth + _ + 2 * n < 900; omega
  · show A.units + _ + 16 * n < 4000; omega

/-- the fields of an object, in the order in which they were put -/
noncomputable def FDict (o : Obj) (fs : List (Str × Value)) : Prop := ∃ (es : List DictEntry) (n : Nat), o = { cls := .type "dict", data := .dict es.toArray n } ∧ es.length = fs.length ∧ ∀ (i : Nat) (e : DictEntry) (f : Str × Value), es[i]? = some e → fs[i]? = some f → (∃ t, e.key = .str f.1 t) ∧ e.val = f.2
theorem FDict.nil : FDict emptyDict [] := ⟨[], 0, rfl, rfl, fun i e f h => by simp at h⟩
theorem find_fields {name : Str} : ∀ {es : List DictEntry} {fs : List (Str × Value)}, es.length = fs.length → (∀ (i : Nat) (e : DictEntry) (f : Str × Value), es[i]? = some e → fs[i]? = some f → (∃ t, e.key = .str f.1 t) ∧ e.val = f.2) →
    (es.find? (·.key.isStr name)).map (·.val) = fs.lookup name ∧ es.any (·.refKey) = false
  | [], [], _, _ => ⟨rfl, rfl⟩
  | [], _ :: _, h, _ => by cases h
  | _ :: _, [], h, _ => by cases h
  | e :: es, f :: fs, h, k => by
    obtain ⟨⟨t, hk⟩, hv⟩ := k 0 e f rfl rfl
    obtain ⟨i1, i2⟩ := find_fields (name := name) (es := es) (fs := fs) (by simpa using h) fun i a b ha hb => k (i + 1) a b (by simpa using ha) (by simpa using hb)
    obtain ⟨f1, f2⟩ := f
    dsimp only at hk hv
    have e1 : e.key.isStr name = (f1 == name) := by rw [hk]; rfl
    constructor
    · rw [List.find?_cons, e1, List.lookup_cons]
      by_cases q : f1 = name
      · subst q; simp [hv]
      · rw [show (f1 == name) = false from beq_false_of_ne q, show (name == f1) = false from beq_false_of_ne (Ne.symm q)]
        exact i1
    · rw [List.any_cons, i2]; simp [DictEntry.refKey, hk]
theorem FDict.look {o : Obj} {fs : List (Str × Value)} (F : FDict o fs) (name : Str) : lookIn name o = some (fs.lookup name) := by
  obtain ⟨es, n, rfl, hl, k⟩ := F
  obtain ⟨a, b⟩ := find_fields (name := name) hl k
  unfold lookIn
  dsimp only
  rw [← a]
  cases q : es.find? (·.key.isStr name) with
  | none => simp [b]
  | some e => simp
theorem FDict.put {o : Obj} {fs : List (Str × Value)} {name : Str} {hsh : Int} {t : Tok} {v : Value} (F : FDict o fs) (hn : fs.lookup name = none) : FDict (Obj.putName name hsh (.str name t) v o) (fs ++ [(name, v)]) := by
  obtain ⟨es, n, rfl, hl, k⟩ := F
  obtain ⟨a, b⟩ := find_fields (name := name) hl k
  rw [Obj.putName_eq]
  unfold Obj.putNameByArray
  have hf : es.find? (·.key.isStr name) = none := by rw [hn] at a; simpa using a
  have hi : es.toArray.findIdx? (·.key.isStr name) = none := by
    rw [List.findIdx?_toArray, List.findIdx?_eq_none_iff]
    intro x hx
    have := List.find?_eq_none.mp hf x hx
    simpa using this
  dsimp only
  rw [hi]
  refine ⟨es ++ [⟨hsh, .str name t, v⟩], n + 1, by simp, by simp [hl], fun i e f he hf' => ?_⟩
  rcases Nat.lt_trichotomy i es.length with q | q | q
  · rw [List.getElem?_append_left q] at he
    rw [List.getElem?_append_left (by omega)] at hf'
    exact k i e f he hf'
  · subst q
    rw [List.getElem?_append_right (Nat.le_refl _)] at he
    rw [hl, List.getElem?_append_right (Nat.le_refl _)] at hf'
    simp at he hf'
    subst he hf'
    exact ⟨⟨t, rfl⟩, rfl⟩
  · rw [List.getElem?_eq_none (by simp; omega)] at he
    cases he

noncomputable def setOk (K : Frag) (Cl : Addr) (name : Str) : Bool := (clsIn K Cl).any (·.hasDict) && plainOver K Cl && takerIn K Cl name == some none && findIn K (.ref Cl) "__setattr__" == some (some (.builtin "object.__setattr__"))
noncomputable def mkOk (K : Frag) (Cl fI : Addr) : Bool := makesIn K Cl && findIn K (.ref Cl) "__init__" == some (some (.ref fI)) && typeIn K (.ref fI) == some (.type "function")
noncomputable def propOk (K : Frag) (Cl p fget : Addr) (name : Str) : Bool := plainGet K Cl name && (clsIn K Cl).isSome && findIn K (.ref Cl) name == some (some (.ref p)) && specialIn K (.ref p) "__get__" == some (some (.builtin "property.__get__")) && takesIn K (.ref p) == some true &&
  (match recIn K p "property" with | some (.ref f :: _) => f == fget | _ => false)

section
variable {gE hE g h h' : Heap} {S : List Addr} {L : Addr} {m m' : Str → Option Value} {mu : List (Addr × Obj)}
/-- one of the objects has turned; of the frame only its reading is known -/
theorem St.moveN {d : Addr} {o o' : Obj} (st : St gE hE S g L m mu h) (i : Nat) (hi : mu[i]? = some (d, o)) (ns : h'.Ns L m) (k : ∀ b x, b ≠ d → b ≠ L → h.get? b = some x → h'.get? b = some x) (ho : h'.get? d = some o') : St gE hE S g L m (mu.set i (d, o')) h' := by
  have hm : (d, o) ∈ mu := List.mem_of_getElem? hi
  have hd := st.own.mem _ hm
  have hl := st.ml _ hm
  have hidx : i < mu.length := by
    rcases Nat.lt_or_ge i mu.length with q | q
    · exact q
    · rw [List.getElem?_eq_none q] at hi; cases hi
  have key : ∀ p ∈ mu.set i (d, o'), p = (d, o') ∨ (p ∈ mu ∧ p.1 ≠ d) := by
    intro p hp
    obtain ⟨j, hj⟩ := List.getElem?_of_mem hp
    rw [List.getElem?_set] at hj
    split at hj
    · rename_i e
      subst e
      exact .inl (Option.some.inj hj).symm
    · rename_i e
      refine .inr ⟨List.mem_of_getElem? hj, fun q => e ?_⟩
      have h1 : (mu.map (·.1))[i]? = some d := by simp [hi]
      have h2 : (mu.map (·.1))[j]? = some d := by simp [hj, q]
      exact (List.getElem?_inj (by simpa using hidx) st.own.nd).mp (h1.trans h2.symm)
  refine ⟨⟨fun b x e => k b x (fun q => by rw [q, hd.2] at e; cases e) (fun q => by rw [q, st.gl] at e; cases e) (st.own.keep b x e), fun p hp => ?_, by rw [set_map_fst hi]; exact st.own.nd⟩,
    ⟨st.step.sub, st.step.old, fun b x e n => k b x (fun q => ?_) (fun q => ?_) (st.step.frame b x e n), Nat.le_of_lt (Nat.lt_of_le_of_lt st.lo ns.lt)⟩, ns, st.gl, st.lo, fun p hp => ?_⟩
  · rcases key p hp with rfl | ⟨q, ne⟩
    · exact ⟨ho, hd.2⟩
    · exact ⟨k _ _ ne (st.ml p q).1 (st.own.mem p q).1, (st.own.mem p q).2⟩
  · subst q
    rcases hl.2 with q | q
    · exact n q
    · exact absurd (Heap.lt_size e) (Nat.not_lt.mpr q)
  · subst q
    exact absurd (Heap.lt_size e) (Nat.not_lt.mpr st.lo)
  · rcases key p hp with rfl | ⟨q, _⟩
    · exact hl
    · exact st.ml p q

/-- the first of the objects that may turn stays as it is from here on -/
theorem Own.freeze {a : Addr} {o : Obj} {S : List Addr} {g₀ h₀ : Heap} (ow : Own g h ((a, o) :: mu)) (sp : Step S g₀ h₀ g h) (ha : h₀.objs.size ≤ a) :
    ∃ g', Sub g g' ∧ g'.get? a = some o ∧ (∀ b, b ≠ a → g'.get? b = g.get? b) ∧ Own g' h mu ∧ Step S g₀ h₀ g' h := by
  have hm := ow.mem (a, o) (.head _)
  have nd := ow.nd
  rw [List.map_cons, List.nodup_cons] at nd
  have key : ∀ b, (restrict h fun b => (g.get? b).isSome || b == a).get? b = if b = a then some o else g.get? b := by
    intro b
    rw [restrict_get]
    by_cases q : b = a
    · subst q; simp [hm.1]
    · rw [if_neg q]
      cases e : g.get? b with
      | none => simp [q]
      | some x => simp [ow.keep b x e]
  have sb : Sub g (restrict h fun b => (g.get? b).isSome || b == a) := fun b x e => by
    rw [key, if_neg (fun q => by rw [q, hm.2] at e; cases e)]; exact e
  refine ⟨restrict h fun b => (g.get? b).isSome || b == a, sb, by rw [key, if_pos rfl], fun b q => by rw [key, if_neg q], ⟨fun b x e => ?_, fun p hp => ⟨(ow.mem p (.tail _ hp)).1, ?_⟩, nd.2⟩, ⟨sp.sub.trans sb, fun b q => ?_, sp.frame, sp.size⟩⟩
  · rw [key] at e
    split at e
    · rename_i q; subst q; cases e; exact hm.1
    · exact ow.keep b x e
  · rw [key, if_neg (fun q => nd.1 (List.mem_map.mpr ⟨p, hp, q⟩))]
    exact (ow.mem p (.tail _ hp)).2
  · rw [key, if_neg (fun q' => by subst q'; exact absurd q (Nat.not_lt.mpr ha))]; exact sp.old b q

theorem Step.mono {S S' : List Addr} {g h g' h' : Heap} (sp : Step S g h g' h') (k : ∀ a ∈ S, a ∈ S' ∨ h.objs.size ≤ a) : Step S' g h g' h' :=
  ⟨sp.sub, sp.old, fun b o e n => sp.frame b o e fun q => by
    rcases k b q with x | x
    · exact n x
    · exact absurd (Heap.lt_size e) (Nat.not_lt.mpr x), sp.size⟩
theorem Step.trans {S : List Addr} {g h g₁ h₁ g₂ h₂ : Heap} (a : Step S g h g₁ h₁) (b : Step S g₁ h₁ g₂ h₂) : Step S g h g₂ h₂ :=
  ⟨a.sub.trans b.sub, fun x q => (b.old x (Nat.lt_of_lt_of_le q a.size)).trans (a.old x q), fun x o e n => b.frame x o (a.frame x o e n) n, Nat.le_trans a.size b.size⟩
end

section
variable {prog : Program} {w : World} {mg mb : Str → Option Value} {p : Program} {loose : List Str} {A : Around} {E : Value → Shared → Prop}
  {gE hE g h : Heap} {S : List Addr} {L : Addr} {m : Str → Option Value} {mu : List (Addr × Obj)} {gs : Array GenState} {dr : Drawn} {tk : Nat} {os : OsState}

noncomputable def others (h : Heap) (dx L : Addr) : List (Addr × Obj) := (List.range h.objs.size).filterMap fun b => if b = dx ∨ b = L then none else (h.get? b).map fun o => (b, o)
theorem mem_others {h : Heap} {dx L b : Addr} {o : Obj} : (b, o) ∈ others h dx L ↔ b ≠ dx ∧ b ≠ L ∧ h.get? b = some o := by
  unfold others
  rw [List.mem_filterMap]
  constructor
  · rintro ⟨b', hb, e⟩
    split at e
    · cases e
    · rename_i q
      obtain ⟨o', ho, e'⟩ := Option.map_eq_some_iff.mp e
      cases e'
      exact ⟨fun x => q (.inl x), fun x => q (.inr x), ho⟩
  · rintro ⟨a, b', c⟩
    refine ⟨b, List.mem_range.mpr (Heap.lt_size c), ?_⟩
    rw [if_neg (fun q => q.elim a b'), c]
    rfl

/-- self.name = v -/
theorem setF {Q : Unit → Shared → Prop} {x dx Cl : Addr} {o : Obj} {fs : List (Str × Value)} {name : Str} {v : Value} (st : St gE hE S g L m mu h) (C : Cx w mg mb p loose g) (i : Nat) (hi : mu[i]? = some (dx, o)) (j : Nat) (hj : mu[j]? = some (x, instObj Cl dx))
    (F : FDict o fs) (hn : fs.lookup name = none) (hs : setOk (KK w) Cl name = true) (hz : fs.length ≤ 20)
    (hq : ∀ h' o' tk', FDict o' (fs ++ [(name, v)]) → St gE hE S g L m (mu.set i (dx, o')) h' → Q () ⟨h', gs, dr, tk', os⟩) : wpAny (model prog w) A (setAttr (.ref x) name v) Q E ⟨h, gs, dr, tk, os⟩ := by
  simp only [setOk, Bool.and_eq_true, beq_iff_eq] at hs
  obtain ⟨⟨⟨h1, h2⟩, h3⟩, h4⟩ := hs
  have hx := st.at j hj
  have hd := st.at i hi
  have X := C.X.keeps st.own.keep
  have F' := F.put (hsh := PyData.keyHash w.params name) (t := tk + 1) (v := v) hn
  obtain ⟨es', n', e', hl', _⟩ := id F'
  refine set_plain (K := KK w) (C := Cl) (ox := instObj Cl dx) (od := some o) (s := ⟨h, gs, dr, tk, os⟩) X ⟨hx, rfl, rfl, hd⟩ h4 ?_
  refine osa_dict (K := KK w) (C := Cl) (h₀ := {}) (L := L) (m := m) (s := ⟨h, gs, dr, tk + 1, os⟩) (pre := []) (post := others h dx L) (es := es') (n := n') (od' := Obj.putName name (PyData.keyHash w.params name) (.str name (tk + 1)) v o)
    ⟨st.ns, (fun b y q => by cases q), Nat.zero_le _⟩ (fun q hq => ?_) X ⟨hx, rfl, rfl, hd⟩ rfl h2 h3 h1 (by rw [F.look]; rfl) (fun _ q => nomatch q) (fun q hq => (mem_others.mp hq).1) rfl (by rw [e']) (by rw [hl']; simp; omega) fun h' Fh N => ?_
  · simp only [List.nil_append, List.mem_cons] at hq
    rcases hq with rfl | hq
    · exact ⟨hd, (st.ml _ (List.mem_of_getElem? hi)).1, rfl⟩
    · have := mem_others.mp hq
      exact ⟨this.2.2, this.2.1, rfl⟩
  · refine hq h' _ _ F' (st.moveN i hi Fh.ns (fun b y n1 n2 e => (N (b, y) ?_).1) (N _ (.head _)).1)
    exact .tail _ (mem_others.mpr ⟨n1, n2, e⟩)

/-- Cl(rest) of a class of the text with an __init__ -/
theorem mk {R : Result → Shared → Prop} {Cl fI : Addr} {rest : List Value} (ow : Own g h mu) (C : Cx w mg mb p loose g) (hm : mkOk (KK w) Cl fI = true)
    (hq : ∀ x dx h', h.objs.size ≤ x → h.objs.size ≤ dx → g.get? x = none → Sub h h' → h.objs.size ≤ h'.objs.size → Own g h' ((x, instObj Cl dx) :: (dx, emptyDict) :: mu) →
      codeAny (model prog w) (A.under (.builtin "type.__call__" ⟨.ref Cl :: rest, []⟩)) (.call (.ref fI) ⟨.ref x :: rest, []⟩) (InitBack x R) ⟨h', gs, dr, tk, os⟩) :
    codeAny (model prog w) A (.call (.ref Cl) ⟨rest, []⟩) R ⟨h, gs, dr, tk, os⟩ := by
  simp only [mkOk, Bool.and_eq_true, beq_iff_eq] at hm
  obtain ⟨⟨h1, h2⟩, h3⟩ := hm
  have X := C.X.keeps ow.keep
  have k : Sub h ((h.push emptyDict).push (instObj Cl h.objs.size)) := fun b o e => Heap.get?_push_of_some _ (Heap.get?_push_of_some _ e)
  have gn : ∀ a, h.objs.size ≤ a → g.get? a = none := fun a ha => by
    cases q : g.get? a with
    | none => rfl
    | some x => exact absurd (Heap.lt_size (ow.keep _ _ q)) (Nat.not_lt.mpr ha)
  have sz1 : (h.push emptyDict).objs.size = h.objs.size + 1 := Heap.size_push ..
  have sz2 : ((h.push emptyDict).push (instObj Cl h.objs.size)).objs.size = h.objs.size + 1 + 1 := by rw [Heap.size_push, sz1]
  refine make_core (makes_of X h1) (looks_findIn X h2) (fun self => bind_fn X self h3) (.inl rfl) (hq _ h.objs.size _ (Nat.le_succ _) (Nat.le_refl _) (gn _ (Nat.le_succ _)) k (by rw [sz2]; omega) ?_)
  have lt : ∀ p ∈ mu, p.1 < h.objs.size := fun p hp => Heap.lt_size (ow.mem p hp).1
  refine ⟨ow.keep.trans k, fun p hp => ?_, ?_⟩
  · rcases List.mem_cons.mp hp with rfl | hp
    · refine ⟨?_, gn _ (Nat.le_succ _)⟩
      have := Heap.get?_push_size (h.push emptyDict) (o := instObj Cl h.objs.size) rfl
      rwa [sz1] at this
    rcases List.mem_cons.mp hp with rfl | hp
    · exact ⟨Heap.get?_push_of_some _ (Heap.get?_push_size _ rfl), gn _ (Nat.le_refl _)⟩
    · exact ⟨k _ _ (ow.mem p hp).1, (ow.mem p hp).2⟩
  · simp only [List.map_cons, List.nodup_cons]
    refine ⟨fun q => ?_, fun q => ?_, ow.nd⟩
    · rcases List.mem_cons.mp q with q | q
      · exact Nat.succ_ne_self _ q
      · obtain ⟨p, hp, e⟩ := List.mem_map.mp q
        have := lt p hp
        rw [e] at this
        exact absurd this (Nat.not_lt.mpr (Nat.le_succ _))
    · obtain ⟨p, hp, e⟩ := List.mem_map.mp q
      have := lt p hp
      rw [e] at this
      exact Nat.lt_irrefl _ this

/-- a property of a class of the text is read -/
theorem aP {Q : Value → Shared → Prop} {x Cl pp fget : Addr} {fs : List (Str × Value)} {name : Str} {expr : Bool} (st : St gE hE S g L m mu h) (C : Cx w mg mb p loose g) (I : InstF g x Cl fs) (hf : propOk (KK w) Cl pp fget name = true)
    (hq : ∀ tk', codeAny (model prog w) A.in1 (.call (.ref fget) ⟨[.ref x], []⟩) (fun r s' => match r with | .ok (.ret v) => handedIn v = true ∧ Q v s' | _ => False) ⟨h, gs, dr, tk', os⟩) :
    wpAny (model prog w) A (getAttr (.ref x) name expr) Q E ⟨h, gs, dr, tk, os⟩ := by
  obtain ⟨dx, od, a, b, c⟩ := I
  simp only [propOk, Bool.and_eq_true, beq_iff_eq] at hf
  obtain ⟨⟨⟨⟨⟨h1, h2⟩, h3⟩, h4⟩, h5⟩, h6⟩ := hf
  have X := C.X.keeps st.own.keep
  obtain ⟨rest, hr⟩ : ∃ rest, recIn (KK w) pp "property" = some (.ref fget :: rest) := by
    split at h6
    · rename_i f r q; exact ⟨r, by rw [q, beq_iff_eq.mp h6]⟩
    · cases h6
  refine get_bind (K := KK w) (C := Cl) (ox := instObj Cl dx) (od := some od) (s := ⟨h, gs, dr, tk, os⟩) X ⟨st.own.keep _ _ a, rfl, rfl, st.own.keep _ _ b⟩ (plainGet_of h1).1 (findObj_data h2 h3 h4 h5) (plainGet_of h1).2
    (wpAny_call (prop_get (s := ⟨h, gs, dr, tk + 1, os⟩) X hr (codeAny_mono (hq _) fun r s' z => ?_)))
  match r, z with
  | .ok (.ret v), z => show wpAny _ _ (handedOut v) _ _ _; rw [handedOut_of z.1]; exact wpAny_pure z.2
  | .ok .next, z => exact z.elim
  | .ok .brk, z => exact z.elim
  | .ok .cont, z => exact z.elim
  | .error e, z => exact z.elim
end
end
-- B6
section
namespace X
theorem owner_bytes : Manifest.owners.lookup (String.ofList ['s', 'e', 't', 'y', 'b'].reverse) = some Manifest.sig_bytes := by kernel_rfl
theorem slot_bytes_lower : Slot "bytes" "lower" "bytes.lower" :=
  .of (owner := "bytes") (n := "lower") (by rw [typeLookup_type, builtinLookup_eq_fast]; kernel_rfl) (by decide +kernel) (by decide +kernel) (by decide +kernel)
    (by first | exact .inl (by decide +kernel) | exact .inr (by decide +kernel)) (by rw [isSubtype_type]; kernel_rfl)
theorem type_bytes_lower : typeOf (.builtin "bytes.lower") = pure (.type "method_descriptor") := by show builtinType _ = _; rw [builtinType_eq_fast]; kernel_rfl
theorem entry_bytes_lower : entryFor table "bytes.lower" = some Builtin.«bytes.lower» := by first | exact entryFor_of_tree (by kernel_rfl) | exact entryFor_of_fast (by kernel_rfl)
theorem args_bytes_lower_1 (a : Value) : argsOk "bytes.lower" ⟨[a], []⟩ := by
  unfold argsOk; rw [signature?_of (id := "bytes.lower") (n := ['r', 'e', 'w', 'o', 'l']) (o := ['s', 'e', 't', 'y', 'b']) (by kernel_rfl) owner_bytes]; kernel_rfl
theorem slot_bytes_find : Slot "bytes" "find" "bytes.find" :=
  .of (owner := "bytes") (n := "find") (by rw [typeLookup_type, builtinLookup_eq_fast]; kernel_rfl) (by decide +kernel) (by decide +kernel) (by decide +kernel)
    (by first | exact .inl (by decide +kernel) | exact .inr (by decide +kernel)) (by rw [isSubtype_type]; kernel_rfl)
theorem type_bytes_find : typeOf (.builtin "bytes.find") = pure (.type "method_descriptor") := by show builtinType _ = _; rw [builtinType_eq_fast]; kernel_rfl
theorem entry_bytes_find : entryFor table "bytes.find" = some Builtin.«bytes.find» := by first | exact entryFor_of_tree (by kernel_rfl) | exact entryFor_of_fast (by kernel_rfl)
theorem args_bytes_find_2 (a b : Value) : argsOk "bytes.find" ⟨[a, b], []⟩ := by
  unfold argsOk; rw [signature?_of (id := "bytes.find") (n := ['d', 'n', 'i', 'f']) (o := ['s', 'e', 't', 'y', 'b']) (by kernel_rfl) owner_bytes]; kernel_rfl
theorem slot_bytes_split : Slot "bytes" "split" "bytes.split" :=
  .of (owner := "bytes") (n := "split") (by rw [typeLookup_type, builtinLookup_eq_fast]; kernel_rfl) (by decide +kernel) (by decide +kernel) (by decide +kernel)
    (by first | exact .inl (by decide +kernel) | exact .inr (by decide +kernel)) (by rw [isSubtype_type]; kernel_rfl)
theorem type_bytes_split : typeOf (.builtin "bytes.split") = pure (.type "method_descriptor") := by show builtinType _ = _; rw [builtinType_eq_fast]; kernel_rfl
theorem entry_bytes_split : entryFor table "bytes.split" = some Builtin.«bytes.split» := by first | exact entryFor_of_tree (by kernel_rfl) | exact entryFor_of_fast (by kernel_rfl)
theorem args_bytes_split_2 (a b : Value) : argsOk "bytes.split" ⟨[a, b], []⟩ := by
  unfold argsOk; rw [signature?_of (id := "bytes.split") (n := ['t', 'i', 'l', 'p', 's']) (o := ['s', 'e', 't', 'y', 'b']) (by kernel_rfl) owner_bytes]; kernel_rfl
theorem slot_bytes_join : Slot "bytes" "join" "bytes.join" :=
  .of (owner := "bytes") (n := "join") (by rw [typeLookup_type, builtinLookup_eq_fast]; kernel_rfl) (by decide +kernel) (by decide +kernel) (by decide +kernel)
    (by first | exact .inl (by decide +kernel) | exact .inr (by decide +kernel)) (by rw [isSubtype_type]; kernel_rfl)
theorem type_bytes_join : typeOf (.builtin "bytes.join") = pure (.type "method_descriptor") := by show builtinType _ = _; rw [builtinType_eq_fast]; kernel_rfl
theorem entry_bytes_join : entryFor table "bytes.join" = some Builtin.«bytes.join» := by first | exact entryFor_of_tree (by kernel_rfl) | exact entryFor_of_fast (by kernel_rfl)
theorem args_bytes_join_2 (a b : Value) : argsOk "bytes.join" ⟨[a, b], []⟩ := by
  unfold argsOk; rw [signature?_of (id := "bytes.join") (n := ['n', 'i', 'o', 'j']) (o := ['s', 'e', 't', 'y', 'b']) (by kernel_rfl) owner_bytes]; kernel_rfl
theorem slot_bytes_startswith : Slot "bytes" "startswith" "bytes.startswith" :=
  .of (owner := "bytes") (n := "startswith") (by rw [typeLookup_type, builtinLookup_eq_fast]; kernel_rfl) (by decide +kernel) (by decide +kernel) (by decide +kernel)
    (by first | exact .inl (by decide +kernel) | exact .inr (by decide +kernel)) (by rw [isSubtype_type]; kernel_rfl)
theorem type_bytes_startswith : typeOf (.builtin "bytes.startswith") = pure (.type "method_descriptor") := by show builtinType _ = _; rw [builtinType_eq_fast]; kernel_rfl
theorem entry_bytes_startswith : entryFor table "bytes.startswith" = some Builtin.«bytes.startswith» := by first | exact entryFor_of_tree (by kernel_rfl) | exact entryFor_of_fast (by kernel_rfl)
theorem args_bytes_startswith_2 (a b : Value) : argsOk "bytes.startswith" ⟨[a, b], []⟩ := by
  unfold argsOk; rw [signature?_of (id := "bytes.startswith") (n := ['h', 't', 'i', 'w', 's', 't', 'r', 'a', 't', 's']) (o := ['s', 'e', 't', 'y', 'b']) (by kernel_rfl) owner_bytes]; kernel_rfl
theorem slot_bytes_le : Slot "bytes" (cmpInfo .LtE).2.1 "bytes.__le__" :=
  .of (owner := "bytes") (n := "__le__") (by rw [typeLookup_type, builtinLookup_eq_fast]; kernel_rfl) (by decide +kernel) (by decide +kernel) (by decide +kernel)
    (by first | exact .inl (by decide +kernel) | exact .inr (by decide +kernel)) (by rw [isSubtype_type]; kernel_rfl)
theorem entry_bytes_le : entryFor table "bytes.__le__" = some Builtin.«bytes.__le__» := by first | exact entryFor_of_tree (by kernel_rfl) | exact entryFor_of_fast (by kernel_rfl)
theorem args_bytes_le_2 (a b : Value) : argsOk "bytes.__le__" ⟨[a, b], []⟩ := by
  unfold argsOk; rw [signature?_of (id := "bytes.__le__") (n := ['_', '_', 'e', 'l', '_', '_']) (o := ['s', 'e', 't', 'y', 'b']) (by kernel_rfl) owner_bytes]; kernel_rfl
theorem slot_bytes_contains : Slot "bytes" "__contains__" "bytes.__contains__" :=
  .of (owner := "bytes") (n := "__contains__") (by rw [typeLookup_type, builtinLookup_eq_fast]; kernel_rfl) (by decide +kernel) (by decide +kernel) (by decide +kernel)
    (by first | exact .inl (by decide +kernel) | exact .inr (by decide +kernel)) (by rw [isSubtype_type]; kernel_rfl)
theorem entry_bytes_contains : entryFor table "bytes.__contains__" = some Builtin.«bytes.__contains__» := by first | exact entryFor_of_tree (by kernel_rfl) | exact entryFor_of_fast (by kernel_rfl)
theorem args_bytes_contains_2 (a b : Value) : argsOk "bytes.__contains__" ⟨[a, b], []⟩ := by
  unfold argsOk; rw [signature?_of (id := "bytes.__contains__") (n := ['_', '_', 's', 'n', 'i', 'a', 't', 'n', 'o', 'c', '_', '_']) (o := ['s', 'e', 't', 'y', 'b']) (by kernel_rfl) owner_bytes]; kernel_rfl
theorem owner_bytearray : Manifest.owners.lookup (String.ofList ['y', 'a', 'r', 'r', 'a', 'e', 't', 'y', 'b'].reverse) = some Manifest.sig_bytearray := by kernel_rfl
theorem slot_bytearray_append : Slot "bytearray" "append" "bytearray.append" :=
  .of (owner := "bytearray") (n := "append") (by rw [typeLookup_type, builtinLookup_eq_fast]; kernel_rfl) (by decide +kernel) (by decide +kernel) (by decide +kernel)
    (by first | exact .inl (by decide +kernel) | exact .inr (by decide +kernel)) (by rw [isSubtype_type]; kernel_rfl)
theorem type_bytearray_append : typeOf (.builtin "bytearray.append") = pure (.type "method_descriptor") := by show builtinType _ = _; rw [builtinType_eq_fast]; kernel_rfl
theorem entry_bytearray_append : entryFor table "bytearray.append" = some Builtin.«bytearray.append» := by first | exact entryFor_of_tree (by kernel_rfl) | exact entryFor_of_fast (by kernel_rfl)
theorem args_bytearray_append_2 (a b : Value) : argsOk "bytearray.append" ⟨[a, b], []⟩ := by
  unfold argsOk; rw [signature?_of (id := "bytearray.append") (n := ['d', 'n', 'e', 'p', 'p', 'a']) (o := ['y', 'a', 'r', 'r', 'a', 'e', 't', 'y', 'b']) (by kernel_rfl) owner_bytearray]; kernel_rfl
theorem slot_bytearray_reverse : Slot "bytearray" "reverse" "bytearray.reverse" :=
  .of (owner := "bytearray") (n := "reverse") (by rw [typeLookup_type, builtinLookup_eq_fast]; kernel_rfl) (by decide +kernel) (by decide +kernel) (by decide +kernel)
    (by first | exact .inl (by decide +kernel) | exact .inr (by decide +kernel)) (by rw [isSubtype_type]; kernel_rfl)
theorem type_bytearray_reverse : typeOf (.builtin "bytearray.reverse") = pure (.type "method_descriptor") := by show builtinType _ = _; rw [builtinType_eq_fast]; kernel_rfl
theorem entry_bytearray_reverse : entryFor table "bytearray.reverse" = some Builtin.«bytearray.reverse» := by first | exact entryFor_of_tree (by kernel_rfl) | exact entryFor_of_fast (by kernel_rfl)
theorem args_bytearray_reverse_1 (a : Value) : argsOk "bytearray.reverse" ⟨[a], []⟩ := by
  unfold argsOk; rw [signature?_of (id := "bytearray.reverse") (n := ['e', 's', 'r', 'e', 'v', 'e', 'r']) (o := ['y', 'a', 'r', 'r', 'a', 'e', 't', 'y', 'b']) (by kernel_rfl) owner_bytearray]; kernel_rfl
theorem slot_bytearray_len : Slot "bytearray" "__len__" "bytearray.__len__" :=
  .of (owner := "bytearray") (n := "__len__") (by rw [typeLookup_type, builtinLookup_eq_fast]; kernel_rfl) (by decide +kernel) (by decide +kernel) (by decide +kernel)
    (by first | exact .inl (by decide +kernel) | exact .inr (by decide +kernel)) (by rw [isSubtype_type]; kernel_rfl)
theorem entry_bytearray_len : entryFor table "bytearray.__len__" = some Builtin.«bytearray.__len__» := by first | exact entryFor_of_tree (by kernel_rfl) | exact entryFor_of_fast (by kernel_rfl)
theorem args_bytearray_len_1 (a : Value) : argsOk "bytearray.__len__" ⟨[a], []⟩ := by
  unfold argsOk; rw [signature?_of (id := "bytearray.__len__") (n := ['_', '_', 'n', 'e', 'l', '_', '_']) (o := ['y', 'a', 'r', 'r', 'a', 'e', 't', 'y', 'b']) (by kernel_rfl) owner_bytearray]; kernel_rfl
theorem slot_bytearray_init : Slot "bytearray" "__init__" "bytearray.__init__" :=
  .of (owner := "bytearray") (n := "__init__") (by rw [typeLookup_type, builtinLookup_eq_fast]; kernel_rfl) (by decide +kernel) (by decide +kernel) (by decide +kernel)
    (by first | exact .inl (by decide +kernel) | exact .inr (by decide +kernel)) (by rw [isSubtype_type]; kernel_rfl)
theorem entry_bytearray_init : entryFor table "bytearray.__init__" = some Builtin.«bytearray.__init__» := by first | exact entryFor_of_tree (by kernel_rfl) | exact entryFor_of_fast (by kernel_rfl)
theorem args_bytearray_init_1 (a : Value) : argsOk "bytearray.__init__" ⟨[a], []⟩ := by
  unfold argsOk; rw [signature?_of (id := "bytearray.__init__") (n := ['_', '_', 't', 'i', 'n', 'i', '_', '_']) (o := ['y', 'a', 'r', 'r', 'a', 'e', 't', 'y', 'b']) (by kernel_rfl) owner_bytearray]; kernel_rfl
theorem plainAttrs_bytes : PlainAttrs "bytes" :=
  ⟨⟨"bytes.__getattribute__", by rw [typeLookup_type, builtinLookup_eq_fast]; kernel_rfl, by decide +kernel⟩, by rw [typeLookup_type, builtinLookup_eq_fast]; kernel_rfl⟩
theorem plainAttrs_bytearray : PlainAttrs "bytearray" :=
  ⟨⟨"bytearray.__getattribute__", by rw [typeLookup_type, builtinLookup_eq_fast]; kernel_rfl, by decide +kernel⟩, by rw [typeLookup_type, builtinLookup_eq_fast]; kernel_rfl⟩
end X
end
-- B7
section
namespace X
theorem sub_bytes_tuple : isSubtype (.type "bytes") (.type "tuple") = pure false := by rw [isSubtype_type]; kernel_rfl
end X
section
variable {prog : Program} {w : World} {A : Around} {E : Value → Shared → Prop}
  {gE hE g h : Heap} {S : List Addr} {L : Addr} {m : Str → Option Value} {mu : List (Addr × Obj)} {gs : Array GenState} {dr : Drawn} {tk : Nat} {os : OsState} {s : Shared}
  {x y : List UInt8} {t u : Tok} {Q : Value → Shared → Prop}

theorem byMeth {name : Str} {id : String} {pl : Sem Bool} {Q : Value × List Value → Shared → Prop} (slot : Slot "bytes" name id) (hty : typeOf (.builtin id) = pure (.type "method_descriptor"))
    (hq : Q (.builtin id, [.bytes x.toArray t]) s) : wpAny (model prog w) A (getMethod (.bytes x.toArray t) name pl) Q E s :=
  getMethod_builtin (typeIs_bytes _ _ _) X.plainAttrs_bytes slot hty (fun a e => by cases e) hq

theorem byLower (hz : x.length ≤ 1000) (hq : ∀ tk' t', Q (.bytes (x.map Builtin.Bytes.toLower).toArray t') ⟨h, gs, dr, tk', os⟩) : wpAny (model prog w) A (call (.builtin "bytes.lower") [.bytes x.toArray t]) Q E ⟨h, gs, dr, tk, os⟩ := by
  refine wpAny_call_entry X.slot_bytes_lower (typeIs_bytes _ _ _) X.entry_bytes_lower ?_ (X.args_bytes_lower_1 _)
  show wpAny _ _ (mkBytes ((x.toArray.toList).map Builtin.Bytes.toLower).toArray >>= fun r => ret r) _ _ _
  exact wpAny_bind (wpAny_mkBytes (wpAny_pure ⟨_, rfl, hq _ _⟩) (by simp; unfold sizeLine; omega))
theorem byLe (hq : ∀ tk', Q (.bool (Builtin.Bytes.holds "__le__" (Builtin.Bytes.order x y))) ⟨h, gs, dr, tk', os⟩) : wpAny (model prog w) A (compareOp .LtE (.bytes x.toArray t) (.bytes y.toArray u)) Q E ⟨h, gs, dr, tk, os⟩ := by
  have g : Gives (Builtin.«bytes.__le__» ⟨[.bytes x.toArray t, .bytes y.toArray u], []⟩) (.val (.bool (Builtin.Bytes.holds "__le__" (Builtin.Bytes.order x y)))) := by
    refine .of_wp fun M A E s Q hq => ?_
    show wpAny M A (isInstance (.bytes y.toArray u) (.type "bytes") >>= fun r => _) _ E s
    exact wpAny_bind (wpAny_isInstance (typeIs_bytes _ _ _) F.sub_bytes_bytes (wpAny_pure ⟨_, rfl, hq⟩))
  exact compareOp_gives (op := .LtE) (typeIs_bytes _ _ _) (typeIs_bytes _ _ _) X.slot_bytes_le X.entry_bytes_le (X.args_bytes_le_2 _ _) g (fun e => nomatch e) (hq _)
noncomputable def startsB (x y : List UInt8) : Bool := if (Builtin.Bytes.window x.toArray.size none none).2 - (Builtin.Bytes.window x.toArray.size none none).1 < (y.toArray.size : Int) then false else x.toArray.extract (Builtin.Bytes.window x.toArray.size none none).1.toNat ((Builtin.Bytes.window x.toArray.size none none).1.toNat + y.toArray.size) == y.toArray
theorem byStarts' (hq : ∀ tk', Q (.bool (startsB x y)) ⟨h, gs, dr, tk', os⟩) : wpAny (model prog w) A (call (.builtin "bytes.startswith") [.bytes x.toArray t, .bytes y.toArray u]) Q E ⟨h, gs, dr, tk, os⟩ := by
  refine wpAny_call_entry X.slot_bytes_startswith (typeIs_bytes _ _ _) X.entry_bytes_startswith ?_ (X.args_bytes_startswith_2 _ _)
  unfold Builtin.«bytes.startswith» Builtin.Bytes.tailMatchM
  dsimp only
  refine wpAny_bind (wpAny_of_eq (a := (.bytes x.toArray t, [.bytes y.toArray u])) rfl ?_)
  refine wpAny_bind (wpAny_of_eq (a := none) rfl ?_)
  refine wpAny_bind (wpAny_of_eq (a := none) rfl ?_)
  refine wpAny_bind (wpAny_of_eq (a := x.toArray) rfl ?_)
  refine wpAny_bind (wpAny_isInstance (T := "bytes") (typeIs_bytes _ _ _) X.sub_bytes_tuple ?_)
  rw [if_neg (by decide)]
  refine wpAny_bind (wpAny_of_eq KBy.buffer_eq ?_)
  exact wpAny_pure ⟨_, rfl, hq _⟩
theorem startsB_eq : startsB x y = y.isPrefixOf x := by
  have hw : Builtin.Bytes.window x.toArray.size none none = (0, (x.length : Int)) := by
    simp [Builtin.Bytes.window]
    omega
  unfold startsB
  rw [hw]
  by_cases q : x.length < y.length
  · rw [if_pos (by simp; omega)]
    cases e : y.isPrefixOf x with
    | false => rfl
    | true =>
      have := (List.isPrefixOf_iff_prefix.mp e).length_le
      omega
  · rw [if_neg (by simp; omega), Bool.eq_iff_iff, List.isPrefixOf_iff_prefix, List.prefix_iff_eq_take]
    simp
    constructor
    · intro e; exact e.symm
    · intro e; exact e.symm
theorem byStarts (hq : ∀ tk', Q (.bool (y.isPrefixOf x)) ⟨h, gs, dr, tk', os⟩) : wpAny (model prog w) A (call (.builtin "bytes.startswith") [.bytes x.toArray t, .bytes y.toArray u]) Q E ⟨h, gs, dr, tk, os⟩ := byStarts' (by rw [startsB_eq]; exact hq)

/-- where y first stands in x, or -1 -/
noncomputable def findB (x y : List UInt8) : Int := match (if (x.length : Int) < y.length then none else Builtin.Bytes.find? x.toArray y.toArray 0 x.length) with | some i => (i : Int) | none => -1
theorem byFind (hq : ∀ tk' t', Q (.int (findB x y) t') ⟨h, gs, dr, tk', os⟩) : wpAny (model prog w) A (call (.builtin "bytes.find") [.bytes x.toArray t, .bytes y.toArray u]) Q E ⟨h, gs, dr, tk, os⟩ := by
  have hw : Builtin.Bytes.window x.toArray.size none none = (0, (x.length : Int)) := by
    simp [Builtin.Bytes.window]
    omega
  refine wpAny_call_entry X.slot_bytes_find (typeIs_bytes _ _ _) X.entry_bytes_find ?_ (X.args_bytes_find_2 _ _)
  unfold Builtin.«bytes.find» Builtin.Bytes.searchM
  dsimp only
  have e : wpAny (model prog w) A.in1 (Builtin.Bytes.searchArgs .bytes "find" ⟨[.bytes x.toArray t, .bytes y.toArray u], []⟩) (fun r s' => r = (x.toArray, y.toArray, if (x.length : Int) < y.length then none else some (0, x.length)) ∧ s' = ⟨h, gs, dr, tk, os⟩) E ⟨h, gs, dr, tk, os⟩ := by
    unfold Builtin.Bytes.searchArgs
    dsimp only
    refine wpAny_bind (wpAny_of_eq (a := (.bytes x.toArray t, [.bytes y.toArray u])) rfl ?_)
    refine wpAny_bind (wpAny_of_eq (a := none) rfl ?_)
    refine wpAny_bind (wpAny_of_eq (a := none) rfl ?_)
    refine wpAny_bind (wpAny_of_eq KBy.buffer_eq ?_)
    refine wpAny_bind (wpAny_pure ?_)
    refine wpAny_bind (wpAny_of_eq (a := x.toArray) rfl ?_)
    rw [hw]
    refine wpAny_pure ⟨?_, rfl⟩
    simp
  refine wpAny_bind (wpAny_mono e (fun r s' z => ?_) fun _ _ e => e)
  obtain ⟨rfl, rfl⟩ := z
  dsimp only
  have hq' := hq (tk + 1) tk
  unfold findB at hq'
  by_cases q : (x.length : Int) < y.length
  · rw [if_pos q] at hq' ⊢
    dsimp only [Option.bind_none]
    refine wpAny_bind (wpAny_rule ?_)
    rw [if_neg (by decide)]
    exact wpAny_bind (wpAny_mkInt (wpAny_pure ⟨_, rfl, hq'⟩))
  · rw [if_neg q] at hq' ⊢
    dsimp only [Option.bind_some]
    rw [if_neg (by decide)]
    split at hq'
    · rename_i i ei
      rw [ei]
      exact wpAny_bind (wpAny_mkInt (wpAny_pure ⟨_, rfl, hq'⟩))
    · rename_i ei
      rw [ei]
      refine wpAny_bind (wpAny_rule ?_)
      rw [if_neg (by decide)]
      exact wpAny_bind (wpAny_mkInt (wpAny_pure ⟨_, rfl, hq'⟩))
/-- an int in bytes -/
theorem byContains {k : Nat} {Q : Bool → Shared → Prop} (hk : k < 256) (hq : ∀ tk', Q (x.contains k.toUInt8) ⟨h, gs, dr, tk', os⟩) : wpAny (model prog w) A (contains (.bytes x.toArray t) (.int (k : Int) u)) Q E ⟨h, gs, dr, tk, os⟩ := by
  refine wpAny_contains_slot (typeIs_bytes _ _ _) X.slot_bytes_contains (wpAny_call_entry X.slot_bytes_contains (typeIs_bytes _ _ _) X.entry_bytes_contains ?_ (X.args_bytes_contains_2 _ _))
  show wpAny _ _ (do let b ← Builtin.Bytes.containsIn "bytes.__contains__" (.bytes x.toArray t) (.int (k : Int) u); ret (.bool b)) _ _ _
  refine wpAny_bind ?_
  unfold Builtin.Bytes.containsIn
  refine wpAny_bind (wpAny_attempt (wpAny_of_eq (a := (k : Int)) rfl ?_))
  refine wpAny_bind (wpAny_of_eq KBy.buffer_eq ?_)
  dsimp only
  rw [if_neg (by simp; omega)]
  refine wpAny_pure (wpAny_pure ⟨_, rfl, wpAny_truthy_bool ?_⟩)
  have := hq tk
  simpa using this
theorem byIn {k : Nat} (hk : k < 256) (hq : ∀ tk', Q (.bool (x.contains k.toUInt8)) ⟨h, gs, dr, tk', os⟩) : wpAny (model prog w) A (compareOp .In (.int (k : Int) u) (.bytes x.toArray t)) Q E ⟨h, gs, dr, tk, os⟩ := by
  show wpAny (model prog w) A (do return Value.bool (← contains (.bytes x.toArray t) (.int (k : Int) u))) Q E _
  exact wpAny_bind (byContains hk fun tk' => wpAny_pure (hq tk'))
theorem byNotIn {k : Nat} (hk : k < 256) (hq : ∀ tk', Q (.bool (!x.contains k.toUInt8)) ⟨h, gs, dr, tk', os⟩) : wpAny (model prog w) A (compareOp .NotIn (.int (k : Int) u) (.bytes x.toArray t)) Q E ⟨h, gs, dr, tk, os⟩ := by
  show wpAny (model prog w) A (do return Value.bool (!(← contains (.bytes x.toArray t) (.int (k : Int) u)))) Q E _
  exact wpAny_bind (byContains hk fun tk' => wpAny_pure (hq tk'))

/-- values that are these bytes -/
inductive BysAre : List Value → List (List UInt8) → Prop
  | nil : BysAre [] []
  | cons {b : List UInt8} {t : Tok} {vs : List Value} {bs : List (List UInt8)} : BysAre vs bs → BysAre (.bytes b.toArray t :: vs) (b :: bs)
theorem BysAre.length : ∀ {vs : List Value} {bs : List (List UInt8)}, BysAre vs bs → vs.length = bs.length
  | _, _, .nil => rfl
  | _, _, .cons h => by simp [h.length]
theorem BysAre.get : ∀ {vs : List Value} {bs : List (List UInt8)} {i : Nat} {b : List UInt8}, BysAre vs bs → bs[i]? = some b → ∃ t, vs[i]? = some (.bytes b.toArray t)
  | _, _, _, _, .nil, e => by simp at e
  | _, _, 0, _, .cons h, e => by simp at e; subst e; exact ⟨_, rfl⟩
  | _, _, i + 1, _, .cons h, e => by simp at e; exact h.get e
theorem BysAre.snoc {b : List UInt8} {t : Tok} : ∀ {vs : List Value} {bs : List (List UInt8)}, BysAre vs bs → BysAre (vs ++ [.bytes b.toArray t]) (bs ++ [b])
  | _, _, .nil => .cons .nil
  | _, _, .cons h => .cons h.snoc

theorem byTup {l : Addr} {vs : List Value} {n : Nat} {bs : List (List UInt8)} {Q : Bool → Shared → Prop} (hl : h.get? l = some (tup vs.toArray n)) (hb : BysAre vs bs) (hq : Q (bs.contains x) ⟨h, gs, dr, tk, os⟩) :
    wpAny (model prog w) A (contains (.ref l) (.bytes x.toArray t)) Q E ⟨h, gs, dr, tk, os⟩ := by
  let e : Value → Bool := fun v => match v with | .bytes b _ => b.toList == x | _ => false
  have he : ∀ y, y ∈ vs.toArray → MeetsSeq.EqGives y (.bytes x.toArray t) (e y) := by
    intro y hy
    have hy : y ∈ vs := by simpa using hy
    obtain ⟨i, hi⟩ := List.getElem?_of_mem hy
    obtain ⟨b, hb'⟩ : ∃ b, bs[i]? = some b := by
      have : i < vs.length := (List.getElem?_eq_some_iff.mp hi).1
      exact ⟨_, List.getElem?_eq_getElem (by rw [← hb.length]; exact this)⟩
    obtain ⟨t', ht⟩ := hb.get hb'
    rw [hi] at ht; cases ht
    intro prog w A E s Q hq
    refine eqBool_bytes ?_
    have : e (.bytes b.toArray t') = decide (b.toArray.toList = x.toArray.toList) := by
      show (b.toArray.toList == x) = _
      rw [Bool.eq_iff_iff]; simp
    rwa [this] at hq
  have ha : vs.toArray.any e = bs.contains x := by
    have : ∀ {vs : List Value} {bs : List (List UInt8)}, BysAre vs bs → vs.any e = bs.contains x := by
      intro vs bs hb
      induction hb with
      | nil => rfl
      | @cons b t vs bs _ ih =>
        rw [List.any_cons, ih, List.contains_cons]
        show (b.toArray.toList == x || _) = _
        rw [show (b.toArray.toList == x) = (x == b) by rw [Bool.eq_iff_iff]; simp; exact ⟨Eq.symm, Eq.symm⟩]
    rw [← this hb]; simp
  refine wpAny_contains_slot (s := ⟨h, gs, dr, tk, os⟩) ⟨_, hl, rfl⟩ slot_tuple_contains (call_meets (s := ⟨h, gs, dr, tk, os⟩) slot_tuple_contains ⟨_, hl, rfl⟩ entry_tuple_contains (args_tuple_contains _ _) (PySem.MeetsSeq2.tuple_contains l vs.toArray n _ e he) ⟨hl, ?_⟩)
  rw [ha]
  exact wpAny_truthy_bool hq
theorem byInT {l : Addr} {vs : List Value} {n : Nat} {bs : List (List UInt8)} (hl : h.get? l = some (tup vs.toArray n)) (hb : BysAre vs bs) (hq : Q (.bool (bs.contains x)) ⟨h, gs, dr, tk, os⟩) :
    wpAny (model prog w) A (compareOp .In (.bytes x.toArray t) (.ref l)) Q E ⟨h, gs, dr, tk, os⟩ := by
  show wpAny (model prog w) A (do return Value.bool (← contains (.ref l) (.bytes x.toArray t))) Q E _
  exact wpAny_bind (byTup hl hb (wpAny_pure hq))
end

/-- the parts of x between the strokes -/
noncomputable def partsOf (x : List UInt8) : List (List UInt8) := (Builtin.Bytes.between x.toArray 1 ((Builtin.Bytes.occurrences x.toArray #[47] 0 x.toArray.size).take (x.toArray.size + 1))).map (·.toList)
section
variable {prog : Program} {w : World} {A : Around} {E : Value → Shared → Prop}
  {gE hE g h : Heap} {S : List Addr} {L : Addr} {m : Str → Option Value} {mu : List (Addr × Obj)} {gs : Array GenState} {dr : Drawn} {tk : Nat} {os : OsState} {s : Shared}
  {x y : List UInt8} {t u : Tok} {Q : Value → Shared → Prop}
theorem mkAll {M : Model} {A : Around} {E : Value → Shared → Prop} {Q : List Value → Shared → Prop} : ∀ (bs : List (Array UInt8)) (tk : Nat), (∀ b ∈ bs, b.size ≤ 1000) → (∀ vs tk', BysAre vs (bs.map (·.toList)) → Q vs ⟨h, gs, dr, tk', os⟩) → wpAny M A (bs.mapM mkBytes) Q E ⟨h, gs, dr, tk, os⟩
  | [], tk, _, hq => by rw [List.mapM_nil]; exact wpAny_pure (hq _ _ .nil)
  | b :: bs, tk, hz, hq => by
    rw [List.mapM_cons]
    refine wpAny_bind (wpAny_mkBytes ?_ (by have := hz b (.head _); unfold sizeLine; omega))
    refine wpAny_bind (mkAll bs _ (fun b hb => hz b (.tail _ hb)) fun vs tk' hv => wpAny_pure (hq _ _ ?_))
    have := BysAre.cons (b := b.toList) (t := tk) hv
    simpa using this
theorem bySplit (st : St gE hE S g L m mu h) (hz : x.length ≤ 500) (hp : ∀ p ∈ partsOf x, p.length ≤ 500) (hn : (partsOf x).length ≤ 500)
    (hq : ∀ d h' vs tk', BysAre vs (partsOf x) → hE.objs.size ≤ d → St gE hE S g L m ((d, lst vs.toArray 0) :: mu) h' → Q (.ref d) ⟨h', gs, dr, tk', os⟩) :
    wpAny (model prog w) A (call (.builtin "bytes.split") [.bytes x.toArray t, .bytes #[47] u]) Q E ⟨h, gs, dr, tk, os⟩ := by
  refine wpAny_call_entry X.slot_bytes_split (typeIs_bytes _ _ _) X.entry_bytes_split ?_ (X.args_bytes_split_2 _ _)
  unfold Builtin.«bytes.split» Builtin.Bytes.splitM
  dsimp only
  refine wpAny_bind (wpAny_of_eq (a := [some (.bytes #[47] u), none]) (by kernel_rfl) ?_)
  dsimp only
  refine wpAny_bind (wpAny_pure ?_)
  refine wpAny_bind (wpAny_of_eq (a := x.toArray) rfl ?_)
  have hlike : Builtin.Bytes.bytesLike (toString Builtin.Bytes.Kind.bytes.name ++ toString "." ++ toString "split") (.bytes #[47] u) = pure #[47] := by
    unfold Builtin.Bytes.bytesLike
    rw [KBy.buffer_eq]
    rfl
  refine wpAny_bind (wpAny_of_eq hlike ?_)
  have n1 : ¬ ((#[47] : Array UInt8).isEmpty = true) := by decide
  have n2 : (-1 : Int) < 0 := by decide
  simp only [n1, n2, if_true, if_false, Bool.false_eq_true]
  generalize hpl : (List.take (x.toArray.size + 1) (Builtin.Bytes.occurrences x.toArray #[47] 0 x.toArray.size)) = pl
  have hpo : partsOf x = (Builtin.Bytes.between x.toArray 1 pl).map (·.toList) := by rw [← hpl]; rfl
  rw [hpo] at hp hn hq
  have fin : ∀ vs tk', BysAre vs ((Builtin.Bytes.between x.toArray 1 pl).map (·.toList)) → wpAny (model prog w) A.in1 (newList vs >>= fun r => ret r) (fun fin s' => ∃ v, fin = .done (.ret v) ∧ Q v s') E ⟨h, gs, dr, tk', os⟩ := fun vs tk' hv =>
    wpAny_bind (lNew st (by rw [hv.length]; omega) fun d h' hd st' => wpAny_pure ⟨_, rfl, hq d h' vs tk' hv hd st'⟩)
  cases pl with
  | nil =>
    simp only [List.isEmpty_nil, if_true]
    refine wpAny_bind (wpAny_rule ?_)
    refine wpAny_bind (wpAny_bind (wpAny_typeOf (T := "bytes") (typeIs_bytes _ _ _) (wpAny_pure ?_)))
    refine fin [.bytes x.toArray t] tk ?_
    have := BysAre.cons (b := x) (t := t) .nil
    have e : (Builtin.Bytes.between x.toArray 1 []).map (·.toList) = [x] := by simp [Builtin.Bytes.between]
    rw [e]; exact this
  | cons p pl =>
    simp only [List.isEmpty_cons, Bool.false_eq_true, if_false]
    refine wpAny_bind (mkAll _ tk (fun b hb => ?_) fun vs tk' hv => fin vs tk' hv)
    have := hp b.toList (List.mem_map_of_mem hb)
    rw [Array.length_toList] at this
    omega
end
end
-- B8
section
section
variable {prog : Program} {w : World} {A : Around} {E : Value → Shared → Prop}
  {gE hE g h : Heap} {S : List Addr} {L : Addr} {m : Str → Option Value} {mu : List (Addr × Obj)} {gs : Array GenState} {dr : Drawn} {tk : Nat} {os : OsState} {s : Shared}
  {x y : List UInt8} {t u : Tok} {Q : Value → Shared → Prop}
theorem take_eq {id : String} {b : Array UInt8} {t : Tok} : Builtin.Bytes.takeBufferQuiet? id (.bytes b t) 0 = pure (some (b, none)) := by
  unfold Builtin.Bytes.takeBufferQuiet? Builtin.Bytes.takeBuffer?
  have e : ((0 : Int) == Builtin.Bytes.fullReadOnly) = false := by decide
  rw [KBy.special_eq KBy.look_buffer, KBy.own_buffer, e, KBy.buffer_eq]
  kernel_rfl
theorem letGo_bytes {M : Model} {A : Around} {E : Value → Shared → Prop} {s : Shared} {Q : Unit → Shared → Prop} : ∀ (taken : List (Value × Option Value)) (keep : List Value), (∀ p ∈ taken, p.2 = none) → Q () s → wpAny M A (Builtin.Bytes.joinLetGo taken keep) Q E s
  | [], _, _, hq => wpAny_pure hq
  | (v, o) :: rest, keep, hn, hq => by
    obtain rfl : o = none := hn _ (.head _)
    unfold Builtin.Bytes.joinLetGo
    dsimp only
    exact wpAny_bind (wpAny_letGo (letGo_bytes rest keep (fun p hp => hn p (.tail _ hp)) hq))
theorem joined_nil : ∀ (bs : List (List UInt8)) (k : Nat) (acc : Array UInt8), (((bs.map (·.toArray)).zipIdx k).foldl (fun out (p : Array UInt8 × Nat) => (if p.2 > 0 then out ++ #[] else out) ++ p.1) acc) = acc ++ bs.flatten.toArray
  | [], k, acc => by simp
  | b :: bs, k, acc => by
    rw [List.map_cons, List.zipIdx_cons, List.foldl_cons, joined_nil bs (k + 1)]
    have : (if k > 0 then acc ++ (#[] : Array UInt8) else acc) = acc := by split <;> simp
    simp only [this]
    simp
theorem joined_flat (bs : List (List UInt8)) : Builtin.Bytes.joined #[] ((bs.map (·.toArray)).toArray).toList = bs.flatten.toArray := by
  unfold Builtin.Bytes.joined
  have := joined_nil bs 0 #[]
  simpa using this
theorem sizes_flat : ∀ (bs : List (List UInt8)) (k : Nat), (bs.map (·.toArray)).foldl (fun a b => a + b.size) k = k + bs.flatten.length
  | [], k => by simp
  | b :: bs, k => by
    rw [List.map_cons, List.foldl_cons, sizes_flat bs]
    simp
    omega
theorem byJoin {l : Addr} {vs : List Value} {n : Nat} {bs : List (List UInt8)} (hl : h.get? l = some (lst vs.toArray n)) (hb : BysAre vs bs) (hz : bs.flatten.length ≤ 100000) (hn : bs.length ≤ 1000)
    (hq : ∀ tk' t', Q (.bytes bs.flatten.toArray t') ⟨h, gs, dr, tk', os⟩) : wpAny (model prog w) A (call (.builtin "bytes.join") [.bytes ([] : List UInt8).toArray t, .ref l]) Q E ⟨h, gs, dr, tk, os⟩ := by
  refine wpAny_call_entry X.slot_bytes_join (typeIs_bytes _ _ _) X.entry_bytes_join ?_ (X.args_bytes_join_2 _ _)
  unfold Builtin.«bytes.join» Builtin.Bytes.joinM
  dsimp only
  refine wpAny_bind (wpAny_of_eq (a := (.bytes ([] : List UInt8).toArray t, .ref l)) rfl ?_)
  dsimp only
  have hT : Shared.TypeIs ⟨h, gs, dr, tk, os⟩ (.ref l) "list" := ⟨_, hl, rfl⟩
  have hseq : ∀ (tk : Nat) (Q : Option (Array Value) → Shared → Prop), Q (some vs.toArray) ⟨h, gs, dr, tk, os⟩ → wpAny (model prog w) A.in1 (seqItems? (.ref l)) Q E ⟨h, gs, dr, tk, os⟩ := fun tk Q hq => wpAny_seqItems (s := ⟨h, gs, dr, tk, os⟩) hl rfl hq
  rw [if_pos (by decide)]
  refine wpAny_bind ?_
  unfold Builtin.Bytes.joinItems
  refine wpAny_bind (wpAny_typeOf hT ?_)
  rw [if_pos (by decide)]
  refine wpAny_pure ?_
  refine wpAny_bind (hseq _ _ ?_)
  dsimp only
  rw [if_pos (by decide)]
  by_cases hone : vs.length = 1
  · cases hb with
    | nil => cases hone
    | @cons b t vs' bs' hb' =>
      obtain rfl : vs' = [] := by
        cases vs' with
        | nil => rfl
        | cons a r => simp at hone
      cases hb'
      refine wpAny_bind (wpAny_typeOf (T := "bytes") (typeIs_bytes _ _ _) ?_)
      rw [if_pos (by decide)]
      refine wpAny_bind (wpAny_rule (wpAny_pure ⟨_, rfl, ?_⟩))
      have := hq tk t
      rw [show [b].flatten = b by simp] at this
      exact this
  · have hrest : ∀ (x : Value) (r : List Value), vs = x :: r → ∃ y z, r = y :: z := fun x r e => by
      cases r with
      | nil => subst e; exact absurd rfl hone
      | cons y z => exact ⟨y, z, rfl⟩
    have step : ∀ {α : Type} {f : Sem α} {k : α → Sem PySem.Fin} {Q E s} , wpAny (model prog w) A.in1 f (fun a s' => wpAny (model prog w) A.in1 (k a) Q E s') E s → wpAny (model prog w) A.in1 (f >>= k) Q E s := wpAny_bind
    cases vs with
    | nil =>
      cases hb
      refine step ?_
      rw [Std.Legacy.Range.forIn_eq_forIn_range']
      refine wpAny_of_eq (a := (#[], [])) (by rfl) ?_
      refine wpAny_bind (wpAny_of_eq (a := #[]) rfl ?_)
      rw [if_neg (by decide)]
      refine wpAny_bind (wpAny_mkBytes ?_ (by decide))
      refine wpAny_bind (wpAny_holding (wpAny_point ?_))
      exact wpAny_bind (letGo_bytes _ _ (fun p hp => by cases hp) (wpAny_pure ⟨_, rfl, hq _ _⟩))
    | cons v1 vs =>
    obtain ⟨v2, vs, rfl⟩ := hrest _ _ rfl
    refine step ?_
    generalize (v1 :: v2 :: vs) = vs at *
    rw [Std.Legacy.Range.forIn_eq_forIn_range']
    refine (wpAny_forIn_list _ (fun (rest : List Nat) (st : Array (Array UInt8) × List (Value × Option Value)) s' => s' = (⟨h, gs, dr, tk, os⟩ : Shared) ∧ ∃ i, i ≤ bs.length ∧ rest = List.range' i (bs.length - i) ∧ st.1 = ((bs.take i).map (·.toArray)).toArray ∧ (∀ p ∈ st.2, p.2 = none ∧ p.1.onHeap = false)) _ ?turn ?fin _ _ ⟨rfl, 0, Nat.zero_le _, ?h0, ?hA, ?hB⟩)
    case hA => simp
    case hB => intro p hp; cases hp
    case h0 => simp [Std.Legacy.Range.size, hb.length]
    case turn =>
      rintro j rest ⟨p1, p2⟩ s' ⟨rfl, i, hi, hr, h1, h2⟩
      dsimp only at h1 h2 ⊢
      have hlt : i < bs.length := by
        rcases Nat.lt_or_ge i bs.length with q | q
        · exact q
        · rw [show bs.length - i = 0 by omega] at hr
          cases hr
      rw [show bs.length - i = (bs.length - (i + 1)) + 1 by omega, List.range'_succ] at hr
      obtain ⟨rfl, rfl⟩ := List.cons.inj hr
      obtain ⟨tv, hv⟩ := hb.get (List.getElem?_eq_getElem hlt)
      have hd : vs.toArray.getD j .none = .bytes (bs[j].toArray) tv := by
        simp [Array.getD, List.getElem?_eq_some_iff] at hv ⊢
        obtain ⟨w1, w2⟩ := hv
        simp [w1, w2]
      have hany : (p2.any fun x => x.1.onHeap) = false := by
        rw [List.any_eq_false]
        intro p hp
        rw [(h2 p hp).2]
        decide
      refine wpAny_bind (hseq _ _ ?_)
      dsimp only
      rw [hd, hany]
      simp only [Bool.or_false]
      rw [if_neg (by decide)]
      refine wpAny_bind (wpAny_holding (wpAny_of_eq take_eq ?_))
      dsimp only
      refine wpAny_bind (hseq _ _ ?_)
      dsimp only
      rw [if_neg (by simp)]
      refine wpAny_pure ⟨rfl, j + 1, hlt, rfl, ?_, fun p hp => ?_⟩
      · rw [h1, List.take_succ_eq_append_getElem hlt, List.map_append]; simp
      · rcases List.mem_append.mp hp with hp | hp
        · exact h2 p hp
        · rw [List.mem_singleton.mp hp]; exact ⟨rfl, rfl⟩
    case fin =>
      rintro ⟨p1, p2⟩ s' ⟨rfl, i, hi, hr, h1, h2⟩
      dsimp only at h1 h2 ⊢
      obtain rfl : i = bs.length := by
        rcases Nat.lt_or_ge i bs.length with q | q
        · rw [show bs.length - i = (bs.length - (i + 1)) + 1 by omega, List.range'_succ] at hr
          cases hr
        · omega
      rw [List.take_length] at h1
      subst h1
      have hs : ((bs.map (·.toArray)).toArray).foldl (fun a b => a + b.size) ((#[] : Array UInt8).size * (((bs.map (·.toArray)).toArray).size - 1)) = bs.flatten.length := by
        have := sizes_flat bs 0
        simpa using this
      refine wpAny_bind (wpAny_of_eq (a := #[]) rfl ?_)
      rw [hs, if_neg (by rw [KBy.tooLong_not (by omega)]; exact Bool.false_ne_true)]
      refine wpAny_bind (wpAny_mkBytes ?_ (by rw [joined_flat]; simp only [List.size_toArray]; unfold sizeLine; omega))
      refine wpAny_bind (wpAny_holding (wpAny_point ?_))
      refine wpAny_bind (letGo_bytes _ _ (fun p hp => (h2 p hp).1) (wpAny_pure ⟨_, rfl, ?_⟩))
      rw [joined_flat]
      exact hq _ _
end
end
-- C0
section
namespace C
section
variable {α β : Type} {M : Model} {A : Around} {s : Shared}
theorem code {c : Code} {R : Flow → Shared → Prop} (h : codeAny M A c (fun r s' => match r with | .ok f => R f s' | .error _ => False) s) : codeC M A c R s := fun Γ p hc hΓ _ => h Γ p hc hΓ
theorem pure' {a : α} {Q : α → Shared → Prop} (h : Q a s) : wpC M A (pure a) Q s := fun _ _ _ _ => h
theorem bind {m : Sem α} {f : α → Sem β} {Q : β → Shared → Prop} (h : wpC M A m (fun a s' => wpC M A (f a) Q s') s) : wpC M A (m >>= f) Q s := fun Γ p hΓ hc => by
  rw [Sem.wp_bind']
  exact Sem.wp_mono M Γ m (fun a p' s' h' => h' Γ p' hΓ hc) (fun _ _ _ h' => h') p s (h Γ p hΓ hc)
theorem standAt' {pos : Pos} {Q : Unit → Shared → Prop} (h : Q () s) : wpC M A (standAt pos) Q s := fun _ _ _ _ => h
theorem point' {Q : Unit → Shared → Prop} (h : Q () s) : wpC M A point Q s := fun _ _ _ _ => h
theorem holding' {vs : List Value} {m : Sem α} {Q : α → Shared → Prop} (h : wpC M A m Q s) : wpC M A (holding vs m) Q s :=
  fun Γ p hΓ hc => by rw [Sem.wp_holding]; exact h Γ p hΓ hc
theorem keep' {vs : List Value} {m : Sem α} {Q : α → Shared → Prop} (h : wpC M A m Q s) : wpC M A (m.keep vs) Q s :=
  fun Γ p hΓ hc => by rw [Sem.wp_keep]; exact h Γ p hΓ hc
theorem onRaise' {m : Sem α} {k : Value → Sem Unit} {Q : α → Shared → Prop} (h : wpC M A m Q s) : wpC M A (m.onRaise k) Q s := fun Γ p hΓ hc => by
  rw [Sem.wp_onRaise]
  exact Sem.wp_mono M Γ m (fun _ _ _ h' => h') (fun _ _ _ h' => h'.elim) p s (h Γ p hΓ hc)
theorem runF {c : Code} {Q : Flow → Shared → Prop} (hc : codeC M A c Q s) (ok : okC c = true := by rfl) : wpC M A (run c none) Q s := fun Γ p hΓ hcl => by
  rw [Sem.wp_run]
  refine wpCode_mono (fun r s' h => ?_) (hc _ p rfl (hΓ.enter c none p (by intro x; cases x)) (clEnter hcl ok))
  rcases r with e | f
  · exact h.elim
  · exact h
theorem runOwn' {c : Code} {env : Env} {Q : Flow → Shared → Prop} (hc : codeC M A c Q s) (ok : okC c = true := by rfl) : wpC M A (runOwn c env) Q s := by
  unfold runOwn
  exact onRaise' (runF hc ok)
theorem of_tree {c : Code} {R : Flow → Shared → Prop}
    (h : wpC M (A.under c) (M.den c) (fun fin s' => match fin with | .done f => R f s' | .again c' => c'.quiet = true ∧ okC c' = true ∧ codeC M A c' R s') s) : codeC M A c R s := fun Γ p hc hΓ hcl => by
  rw [wpCode_iff_wp, hc]
  refine Sem.wp_mono M Γ _ (fun fin p' s' h' => ?_) (fun _ _ _ h' => h') p s (h Γ p (hc ▸ hΓ.in) hcl)
  cases fin with
  | done f => exact h'
  | again c' => exact ⟨h'.1, h'.2.2 (Γ.goto c') p' rfl (hΓ.goto c') ⟨h'.2.1, hcl.2⟩⟩
theorem loop {c : Code} {R : Flow → Shared → Prop} (hq : c.quiet = true) (ok : okC c = true) (I : Nat → Shared → Prop)
    (turn : ∀ n s, I n s → wpC M (A.under c) (M.den c) (fun fin s' => match fin with
        | .done f => R f s'
        | .again c' => (c' = c ∧ ∃ m, m < n ∧ I m s') ∨ (c'.quiet = true ∧ okC c' = true ∧ codeC M A c' R s')) s)
    (n : Nat) (h : I n s) : codeC M A c R s := by
  induction n using Nat.strongRecOn generalizing s with
  | ind n ih =>
    refine of_tree (mono (turn n s h) fun fin s' hf => ?_)
    cases fin with
    | done f => exact hf
    | again c' =>
      rcases hf with ⟨rfl, m, hm, hI⟩ | hf
      · exact ⟨hq, ok, ih m hm hI⟩
      · exact hf
end

section
variable {M : Model} {A : Around} {s : Shared} {env : Env}
theorem execs' {st rest} {Q : Flow → Shared → Prop} (h : wpC M A (exec st env) (fun f s' => match f with | .next => wpC M A (execs rest env) Q s' | f => Q f s') s) : wpC M A (execs (st :: rest) env) Q s := by
  rw [execs_cons]
  refine bind (mono h fun f s' h' => ?_)
  cases f <;> first | exact h' | exact pure' h'
theorem Return {e pos} {Q : Flow → Shared → Prop} (h : wpC M A (eval e env) (fun v => Q (.ret v)) s) : wpC M A (exec (.Return (some e) pos) env) Q s := by
  rw [exec_Return_some]
  exact bind (standAt' (bind (mono h fun v s' h' => pure' h')))
theorem Assign {x pos' value pos} {Q : Flow → Shared → Prop} (h : wpC M A (eval value env) (fun v s₁ => wpAny M A (storeName env x v) (fun _ => Q .next) (fun _ _ => False) s₁) s)
    (hs : noComp value = true := by kernel_rfl) : wpC M A (exec (.Assign [.Name x pos'] value pos) env) Q s := by
  rw [exec_Assign_Name env x pos' value pos (swaps_no hs)]
  exact bind (standAt' (bind (mono h fun v s₁ h₁ => bind (standAt' (bind (any (wpAny_bindName (wpAny_mono h₁ (fun _ s₂ q => pure' q) fun _ _ x => x))))))))
theorem AssignSwapped {elts k tpos value pos} {names : List Str} {Q : Flow → Shared → Prop}
    (h : wpC M A (eval value env) (fun v s₁ => wpAny M A (unpackItems v names.length none) (fun items s₂ =>
      wpAny M A (assignInOrder (names.reverse.map fun n => bindName env n) items.reverse) (fun _ => Q .next) (fun _ _ => False) s₂) (fun _ _ => False) s₁) s)
    (hs : swapsWithSole [.Tuple elts k tpos] value pos.line env = pure false := by kernel_rfl)
    (hw : swappedStores [.Tuple elts k tpos] value env = pure (some names) := by kernel_rfl) : wpC M A (exec (.Assign [.Tuple elts k tpos] value pos) env) Q s := by
  rw [exec_Assign]
  refine bind (standAt' (bind ?_))
  rw [hs]
  refine pure' ?_
  rw [if_neg (by decide)]
  refine bind (mono h fun v s₁ h₁ => bind ?_)
  rw [hw]
  refine pure' (any ?_)
  show wpAny M A (do rule "assign.swapped-stores"; let items ← unpackItems v names.length none; assignInOrder (names.reverse.map fun n => bindName env n) items.reverse; pure .next) Q (fun _ _ => False) s₁
  exact wpAny_bind (wpAny_rule (wpAny_bind (wpAny_mono h₁ (fun items s₂ h₂ => wpAny_bind (wpAny_mono h₂ (fun _ _ x => wpAny_pure x) fun _ _ x => x)) fun _ _ x => x)))
theorem BinOp {l op r pos} {Q : Value → Shared → Prop} (h : wpC M A (eval l env) (fun a s₁ => wpAny M A (eval r env) (fun b s₂ => wpAny M A (binaryOp op a b) Q (fun _ _ => False) s₂) (fun _ _ => False) s₁) s) :
    wpC M A (eval (.BinOp l op r pos) env) Q s := fun Γ p hΓ hc => by
  simp only [eval_BinOp, Sem.wp_bind', Sem.wp_holding, Sem.wp_cmd_standAt, Sem.wp_operate]
  exact Sem.wp_mono M Γ _ (fun a p₁ s₁ h₁ => Sem.wp_mono M Γ _ (fun b _ s₂ h₂ => h₂ Γ _ hΓ) (fun _ _ _ h' => h') _ _ (h₁ Γ p₁ hΓ)) (fun _ _ _ h' => h') _ _ (h Γ p hΓ hc)
theorem For {target iter body orelse pos} {Q : Flow → Shared → Prop}
    (h : wpAny M A (eval iter env) (fun x s₁ => wpAny M A (pyIter x) (fun it s₂ => codeC M A (.forLoop target it body orelse env) Q s₂) (fun _ _ => False) s₁) (fun _ _ => False) s)
    (hs : ∀ x, foldedSetIterable iter env x = pure x := by intro _; rfl) : wpC M A (exec (.For target iter body orelse pos) env) Q s := by
  rw [exec_For]
  refine bind (standAt' (bind (any (wpAny_mono h (fun x s₁ h₁ => bind ?_) fun _ _ e => e))))
  rw [hs]
  exact pure' (bind (standAt' (bind (holding' (any (wpAny_mono h₁ (fun it s₂ h₂ => runOwn' h₂) fun _ _ e => e))))))
theorem While {test body orelse pos} {Q : Flow → Shared → Prop} (h : codeC M A (.whileLoop test body orelse env) Q s) : wpC M A (exec (.While test body orelse pos) env) Q s := by
  rw [exec_While]; exact bind (standAt' (runOwn' h))
theorem Tuple {elts : List Expr} {k : Nat} {pos : Pos} {Q : Value → Shared → Prop} (h : wpC M A (spliced (backTo pos (starEach elts env))) (fun vs s₁ => wpAny M A (newTuple vs) Q (fun _ _ => False) s₁) s) : wpC M A (eval (.Tuple elts k pos) env) Q s := by
  show wpC M A (do standAt pos; newTuple (← spliced (backTo pos (starEach elts env)))) Q s
  exact bind (standAt' (bind (mono h fun vs s₁ h₁ => any h₁)))
theorem SplCons {e : Expr} {rest : List Expr} {pos : Pos} {Q : List Value → Shared → Prop} (h : wpC M A (eval e env) (fun v s₁ => wpC M A (spliced (backTo pos (starEach rest env))) (fun vs s₂ => Q (v :: vs) s₂) s₁) s)
    (hpl : plainArg e = true := by kernel_rfl) : wpC M A (spliced (backTo pos (starEach (e :: rest) env))) Q s := by
  rw [(starEach_plain hpl)]
  show wpC M A (spliced ((false, eval e env) :: backTo pos (starEach rest env))) Q s
  rw [spliced]
  refine bind (mono h fun v s₁ h₁ => ?_)
  simp only [Bool.false_eq_true, if_false]
  exact bind (pure' (bind (holding' (mono h₁ fun vs s₂ h₂ => pure' h₂))))
theorem SplNil {pos : Pos} {Q : List Value → Shared → Prop} (h : Q [] s) : wpC M A (spliced (backTo pos (starEach [] env))) Q s := pure' h
end
end C
end
-- C1
section
namespace C
section
variable {M : Model} {A : Around} {s : Shared} {env : Env}
theorem Call {func : Expr} {args : List Expr} {pos : Pos} {Q : Value → Shared → Prop}
    (h : wpAny M A (eval func env) (fun f s₁ => wpC M A (callWith pos f [] (backTo pos (starEach args env)) []) Q s₁) (fun _ _ => False) s)
    (he : plainFun func = true := by kernel_rfl) :
    wpC M A (eval (.Call func args [] pos) env) Q s := by rw [eval_call he]; exact bind (any h)
theorem Method {o : Expr} {name : Str} {apos pos : Pos} {args : List Expr} {Q : Value → Shared → Prop}
    (h : wpAny M A (eval o env) (fun ov s₁ => wpAny M A (getMethod ov name (do return (← importBound o env).getD true)) (fun fx s₂ => wpC M A (callWith pos fx.1 fx.2 (backTo pos (starEach args env)) []) Q s₂) (fun _ _ => False) s₁) (fun _ _ => False) s)
    (he : eval (.Call (.Attribute o name apos) args [] pos) env = (do
      let ov ← eval o env
      standAt apos.atName
      let (f, first) ← holding [ov] (getMethod ov name (do return (← importBound o env).getD true))
      callWith pos f first (backTo pos (starEach args env)) (backToKw pos (keywordEach [] env))) := by kernel_rfl) :
    wpC M A (eval (.Call (.Attribute o name apos) args [] pos) env) Q s := by
  rw [he]
  exact bind (any (wpAny_mono h (fun ov s₁ h₁ => bind (standAt' (bind (holding' (any (wpAny_mono h₁ (fun fx s₂ h₂ => h₂) fun _ _ x => x)))))) fun _ _ x => x))
theorem args_cons {f : Value} {e : Expr} {rest : List Expr} {pos : Pos} {Q : Args → Shared → Prop}
    (h : wpC M A (spliced (backTo pos (starEach (e :: rest) env))) (fun vs s' => Q ⟨vs, []⟩ s') s) (he : starEach (e :: rest) env = (false, eval e env) :: starEach rest env) :
    wpC M A (evalArgs f true (backTo pos (starEach (e :: rest) env)) []) Q s := by
  rw [he] at h ⊢
  unfold evalArgs
  show wpC M A (spliced ((false, eval e env) :: backTo pos (starEach rest env)) >>= _) Q s
  refine bind (mono h fun vs s' h' => ?_)
  refine holding' ?_
  exact bind (pure' (bind (pure' (pure' h'))))
theorem args_nil {f : Value} {Q : Args → Shared → Prop} (h : Q ⟨[], []⟩ s) : wpC M A (evalArgs f true [] []) Q s := any (evalArgs_nil3 h)
theorem callWith' {P : Heap → Prop} {pos : Pos} {f : Value} {first : List Value} {args : List (Bool × Sem Value)} {Q : Value → Shared → Prop} (hplain : args.any (·.1) = false)
    (hk : ∀ h, P h → ∃ k, (k = Keeper.frame ∨ k = Keeper.machine ∨ k = Keeper.boundFrame) ∧ Looks M h (keeperOf f) k)
    (h : wpC M A (evalArgs f true args []) (fun a s₁ => P s₁.heap ∧ wpC M A (call f (first ++ a.pos) a.kw) Q s₁) s) : wpC M A (callWith pos f first args []) Q s := by
  unfold callWith
  refine bind (holding' (mono h fun a s₁ h₁ => bind (standAt' ?_)))
  obtain ⟨k, hk', L⟩ := hk _ h₁.1
  simp only [hplain, List.any_nil, Bool.or_false]
  refine bind (any (L.here ?_))
  have tail : ∀ {t : Sem Value}, wpC M A t Q s₁ → wpC M A (t >>= fun r => holding [r] point >>= fun _ => pure r) Q s₁ :=
    fun ht => bind (mono ht fun r s₂ hr => bind (holding' (point' (pure' hr))))
  have marked (mk : Value) : wpC M A (callMarked mk f (first ++ a.pos) a.kw) Q s₁ := keep' h₁.2
  rcases hk' with rfl | rfl | rfl <;> dsimp only <;> first | exact tail h₁.2 | (split <;> first | exact tail h₁.2 | exact tail (marked _))
end
section
variable {prog : Program} {w : World} {mg mb : Str → Option Value} {p : Program} {loose : List Str} {A : Around}
  {gE hE g h : Heap} {S : List Addr} {L : Addr} {m : Str → Option Value} {mu : List (Addr × Obj)} {gs : Array GenState} {dr : Drawn} {tk : Nat} {os : OsState} {s : Shared} {env : Env}
theorem Expr' {e pos} {Q : Flow → Shared → Prop} (h : wpC (model prog w) A (eval e env) (fun _ => Q .next) s)
    (hi : interactive env = false := by kernel_rfl) (hs : noComp e = true := by kernel_rfl) : wpC (model prog w) A (exec (.Expr e pos) env) Q s := by
  rw [exec_Expr env e pos hi (swaps_no hs)]
  exact bind (standAt' (bind (mono h fun v s' h' => any (wpAny_dropValue h'))))
/-- a call of a def or a class of the text -/
theorem callK {pos : Pos} {f : Value} {first : List Value} {e : Expr} {rest : List Expr} {Q : Value → Shared → Prop} (hk : keepIn (KK w) f = true)
    (h : wpC (model prog w) A (spliced (backTo pos (starEach (e :: rest) env))) (fun vs s₁ => (KK w).In s₁.heap ∧ wpC (model prog w) A (call f (first ++ vs)) Q s₁) s)
    (hpl : plainArgs (e :: rest) = true := by kernel_rfl) :
    wpC (model prog w) A (callWith pos f first (backTo pos (starEach (e :: rest) env)) []) Q s :=
  callWith' (by rw [(pa1 hpl)]; show (false || (backTo pos (starEach rest env)).any (·.1)) = false; rw [(pa2 hpl)]; rfl) (keeps_K hk) (args_cons h (pa1 hpl))
theorem callK0 {pos : Pos} {f : Value} {first : List Value} {Q : Value → Shared → Prop} (hk : keepIn (KK w) f = true) (X : (KK w).In s.heap) (h : wpC (model prog w) A (call f (first ++ [])) Q s) :
    wpC (model prog w) A (callWith pos f first (backTo pos (starEach [] env)) []) Q s :=
  callWith' rfl (keeps_K hk) (args_nil ⟨X, h⟩)
theorem callB {pos : Pos} {i : String} {first : List Value} {e : Expr} {rest : List Expr} {Q : Value → Shared → Prop}
    (h : wpC (model prog w) A (spliced (backTo pos (starEach (e :: rest) env))) (fun vs s₁ => wpC (model prog w) A (call (.builtin i) (first ++ vs)) Q s₁) s)
    (hpl : plainArgs (e :: rest) = true := by kernel_rfl) :
    wpC (model prog w) A (callWith pos (.builtin i) first (backTo pos (starEach (e :: rest) env)) []) Q s := by
  have ha : (backTo pos (starEach (e :: rest) env)).any (·.1) = false := by rw [(pa1 hpl)]; show (false || (backTo pos (starEach rest env)).any (·.1)) = false; rw [(pa2 hpl)]; rfl
  have h' : wpC (model prog w) A (evalArgs (.builtin i) true (backTo pos (starEach (e :: rest) env)) []) (fun a s₁ => wpC (model prog w) A (call (.builtin i) (first ++ a.pos) a.kw) Q s₁) s := args_cons h (pa1 hpl)
  unfold callWith
  refine bind (holding' (mono h' fun a s₁ h₁ => bind (standAt' ?_)))
  simp only [ha, List.any_nil, Bool.or_false]
  refine bind (pure' ?_)
  exact bind (mono h₁ fun r s₂ hr => bind (holding' (point' (pure' hr))))

theorem func {body : List Stmt} {R : Flow → Shared → Prop} (h : wpC (model prog w) (A.deeper env) (execs body env) (fun f s' => R (.ret (match f with | .ret v => v | _ => .none)) s') s) : codeC (model prog w) A (.func body env) R s := by
  refine of_tree ?_
  show wpC _ (A.deeper env) (do point; match ← (execs body env).onRaise (leaving env) with | .ret v => ret v | _ => ret .none) _ s
  refine bind (point' (bind (onRaise' (mono h fun f s' h' => ?_))))
  cases f <;> exact pure' h'
/-- a def is entered -/
theorem def' {a : Addr} {o : Obj} {fd : FuncData} {body : List Stmt} {args : Args} {binds : List (Str × Value)} {R : Flow → Shared → Prop}
    (hroom : A.depth < recursionLimit) (ho : s.heap.get? a = some o) (hdata : o.data = .func fd) (hcd : s.heap.CodeRec fd.code fd.qualname)
    (hbody : fd.body = .stmts body) (hbind : BindsTo s fd args binds)
    (henv : wpAny (model prog w) A.in1 (newFunctionEnv fd.scope fd.globals fd.closure binds (fd.qualname ++ ".<locals>.") (some a) fd.code none fd.builtins) (fun env s₂ => s₂.heap.NoLimit ∧
      wpC (model prog w) (A.deeper env) (execs body env) (fun f s' => R (.ret (match f with | .ret v => v | _ => .none)) s') s₂) (fun _ _ => False) s)
    (hco : fd.scope.isCoroutine = false) (hgen : fd.scope.isGenerator = false) : codeC (model prog w) A (.call (.ref a) args) R s := by
  refine of_tree ?_
  show wpC _ A.in1 (callAny (.ref a) args) _ s
  unfold callAny
  refine bind (any (wpAny_load ho ?_))
  obtain ⟨c, oc, vs, tq, hc, hoc, hdc, hq⟩ := hcd
  simp only [hdata, callFunction, hco, hgen, hbody, hc]
  rw [hc] at henv
  refine bind (m := field (.ref c) 1) (any (wpAny_field hoc hdc hq (bind (pure' ?_))))
  refine bind (any (hbind _ _ _ _ (bind (any (wpAny_mono henv (fun env s₂ h₂ => ?_) fun _ _ x => x)))))
  exact bind (any (wpAny_enterFrame h₂.1 hroom (pure' ⟨rfl, rfl, func h₂.2⟩)))

/-- a def of the text is entered -/
theorem enter {n : Nat} {f : Addr} {fd : FuncData} {oc : Value} {od : Option Addr} {osl : Array (Option Value)} {body : List Stmt} {args : Args} {binds : List (Str × Value)} {R : Flow → Shared → Prop}
    (C : Cx w mg mb p loose g) (ow : Own g h mu) (rm : Rm A (n + 1))
    (hf : (KK w).lookup f = some ⟨oc, od, .func fd, osl⟩) (hcd : codeIn (KK w) fd.code fd.qualname = true) (hbody : fd.body = .stmts body)
    (hbind : BindsTo ⟨h, gs, dr, tk, os⟩ fd args binds) (hloc : (binds.all fun x => decide (fd.scope.names.lookup x.1 = some .local)) = true)
    (walk : ∀ h₁ tk₁, Rm (A.deeper (callEnv fd h.objs.size f)) n → St g h (mu.map (·.1)) g h.objs.size (fun y => binds.reverse.lookup y) mu h₁ →
      ∀ Z : Flow → Shared → Prop, (∀ fl s', R (.ret (match fl with | .ret v => v | _ => .none)) s' → Z fl s') →
      wpC (model prog w) (A.deeper (callEnv fd h.objs.size f)) (execs body (callEnv fd h.objs.size f)) Z ⟨h₁, gs, dr, tk₁, os⟩)
    (hco : fd.scope.isCoroutine = false) (hgen : fd.scope.isGenerator = false) (hk : fd.scope.kind = .function) (hcell : (fd.scope.names.all fun x => x.2 != .cell) = true) :
    codeC (model prog w) A (.call (.ref f) args) R ⟨h, gs, dr, tk, os⟩ := by
  have lim := C.T.nolimit.keeps ow.keep
  refine def' (s := ⟨h, gs, dr, tk, os⟩) rm.lim ((C.X.keeps ow.keep) _ _ hf) rfl (codeRec_of (C.X.keeps ow.keep) hcd) hbody hbind ?_ hco hgen
  refine wpAny_newFunctionEnv (fun x hx => by simpa using List.all_eq_true.mp hcell x hx) (locs hloc) (fun h₁ hns hsb => ⟨lim.fresh _ hsb, ?_⟩) hk
  have hk₁ : ∀ b o, h.get? b = some o → h₁.get? b = some o := fun b o e => hsb.extBut b o (Nat.ne_of_lt (Heap.lt_size e)) (Heap.get?_push_of_some _ e)
  have sz : h.objs.size ≤ h₁.objs.size := Nat.le_of_lt hns.lt
  refine walk h₁ _ rm.deeper ⟨⟨ow.keep.trans hk₁, fun q hq => ⟨hk₁ _ _ (ow.mem q hq).1, (ow.mem q hq).2⟩, ow.nd⟩, ⟨Sub.rfl, fun _ _ => rfl, fun b o e _ => hk₁ b o e, sz⟩, hns, ?_, Nat.le_refl _, fun q hq => ⟨Nat.ne_of_lt (Heap.lt_size (ow.mem q hq).1), .inl (List.mem_map_of_mem hq)⟩⟩ _ fun _ _ x => x
  cases q : g.get? h.objs.size with
  | none => rfl
  | some x => exact absurd (Heap.lt_size (ow.keep _ _ q)) (Nat.lt_irrefl _)

theorem forLoop {R : Flow → Shared → Prop} {target it body env} (I : Nat → Shared → Prop)
    (turn : ∀ n s, I n s → wpAny (model prog w) A (pyNext it) (fun r s₁ => match r with
      | none => R .next s₁
      | some v => wpAny (model prog w) A (letOwnedTupleGo target it v) (fun _ s₁' => wpAny (model prog w) A (assign target env v) (fun _ s₂ => wpC (model prog w) A (execs body env) (fun f s₃ => match f with
            | .next | .cont => ∃ m, m < n ∧ I m s₃
            | .brk => R .next s₃
            | .ret v => R (.ret v) s₃) s₂) (fun _ _ => False) s₁') (fun _ _ => False) s₁) (fun _ _ => False) s)
    (n : Nat) (h : I n s) : codeC (model prog w) A (.forLoop target it body [] env) R s := by
  refine loop rfl rfl I (fun n s hI => ?_) n h
  show wpC _ A ((forTurn target it body [] env).onRaise (fun x => do noteFrame x env; theTreesLotGoes x)) _ s
  refine onRaise' ?_
  unfold forTurn
  refine bind (standAt' (bind (onRaise' (mono (any (turn n s hI)) fun r s₁ h₁ => ?_))))
  cases r with
  | none =>
    refine pure' (.inr ⟨rfl, rfl, code ?_⟩)
    exact codeAny_block (wpAny_execs_nil h₁)
  | some v =>
    refine bind (mono (any h₁) fun _ s₁' h₁' => ?_)
    refine bind (mono (any h₁') fun _ s₂ h₂ => bind (mono h₂ fun f s₃ h₃ => ?_))
    cases f with
    | next => exact pure' (.inl ⟨rfl, h₃⟩)
    | cont => exact pure' (.inl ⟨rfl, h₃⟩)
    | brk => exact pure' h₃
    | ret v => exact pure' h₃
theorem whileLoop {R : Flow → Shared → Prop} {test body env} (I : Nat → Shared → Prop)
    (turn : ∀ n s, I n s → wpAny (model prog w) A (isTrue test env (eval test env)) (fun b s₂ =>
        if b then wpC (model prog w) A (execs body env) (fun f s₃ => match f with
            | .next | .cont => ∃ m, m < n ∧ I m s₃
            | .brk => R .next s₃
            | .ret v => R (.ret v) s₃) s₂
        else R .next s₂) (fun _ _ => False) s)
    (n : Nat) (h : I n s) : codeC (model prog w) A (.whileLoop test body [] env) R s := by
  refine loop rfl rfl I (fun n s hI => ?_) n h
  show wpC _ A ((whileTurn test body [] env).onRaise (fun x => do noteFrame x env; theTreesLotGoes x)) _ s
  refine onRaise' ?_
  unfold whileTurn
  refine bind (mono (any (turn n s hI)) fun b s₂ h₂ => ?_)
  cases b with
  | false =>
    simp only [Bool.false_eq_true, if_false] at h₂ ⊢
    exact bind (any (wpAny_execs_nil (pure' h₂)))
  | true =>
    simp only [if_true] at h₂ ⊢
    refine bind (mono h₂ fun f s₃ h₃ => ?_)
    cases f with
    | next => exact pure' (.inl ⟨rfl, h₃⟩)
    | cont => exact pure' (.inl ⟨rfl, h₃⟩)
    | brk => exact pure' h₃
    | ret v => exact pure' h₃
end
end C
end
-- C2
section
noncomputable abbrev bya (b : Array UInt8) : Obj := { cls := .type "bytearray", data := .bytearray b 0 }
namespace C
section
variable {prog : Program} {w : World} {A : Around} {s : Shared}
theorem dn {c : Prop} {i : Decidable c} {A : c → Bool} {B : ¬c → Bool} (h : ¬c) (x : ¬ (B h = true)) : ¬ (@dite Bool c i A B = true) := by rw [dif_neg h]; exact x
theorem ndR {a b : Bool} (h : b = false) : ¬ ((a && b) = true) := by rw [h, Bool.and_false]; exact Bool.false_ne_true
theorem exported_no {v : Value} {Q : Bool → Shared → Prop} (h : Q false s) : wpC (model prog w) A (Builtin.Bytes.exported v) Q s := fun Γ p hΓ hc => by
  unfold Builtin.Bytes.exported
  show Q ((List.any ((Γ.code, p) :: Γ.below)) _) s
  rw [show (List.any ((Γ.code, p) :: Γ.below)) _ = false from ?_]
  · exact h
  · rw [List.any_eq_false]
    intro x hx
    have ok : okC x.1 = true := by
      rcases List.mem_cons.mp hx with rfl | hx
      · exact hc.1
      · exact hc.2 x hx
    obtain ⟨c, q⟩ := x
    dsimp only at ok ⊢
    have key : ∀ (id : String) (a : Args), okC (.builtin id a) = true → Builtin.Bytes.decodersThatHold.contains id = false ∧ id ≠ "bytearray.__contains__" ∧ id ≠ "bytearray.__mod__" ∧ id ≠ "bytearray.__rmod__" ∧ id ≠ "_struct.pack_into.held" ∧ id ≠ "bytearray.find.held" := fun id a ok => by
      simp only [okC, Bool.and_eq_true, Bool.not_eq_true', bne_iff_ne] at ok
      exact ⟨ok.1.1.1.1.1, ok.1.1.1.1.2, ok.1.1.1.2, ok.1.1.2, ok.1.2, ok.2⟩
    cases c <;> first | exact Bool.false_ne_true | skip
    rename_i id a
    obtain ⟨k0, k1, k2, k3, k4, k5⟩ := key id a ok
    obtain ⟨pos, kw⟩ := a
    unfold Builtin.Bytes.exported.match_1
    with_unfolding_all refine dn k1 ?_
    with_unfolding_all refine dn k2 ?_
    with_unfolding_all refine dn k3 ?_
    with_unfolding_all refine dn k4 ?_
    with_unfolding_all refine dn k5 ?_
    cases pos with
    | nil => exact Bool.false_ne_true
    | cons v r => exact ndR k0
theorem exportsOf_no {d : Addr} {b : Array UInt8} {Q : Nat → Shared → Prop} (hd : s.heap.get? d = some (bya b)) (h : Q 0 s) : wpAny (model prog w) A (Builtin.Bytes.exportsOf (.ref d)) Q (fun _ _ => False) s := by
  unfold Builtin.Bytes.exportsOf
  exact wpAny_bind (wpAny_load hd (wpAny_pure h))
theorem checkResize_ok {d : Addr} {b : Array UInt8} {Q : Unit → Shared → Prop} (hd : s.heap.get? d = some (bya b)) (h : Q () s) : wpC (model prog w) A (Builtin.Bytes.checkResize (.ref d)) Q s := by
  unfold Builtin.Bytes.checkResize
  refine bind (bind (exported_no ?_))
  show wpC _ _ (do return (← Builtin.Bytes.exportsOf (.ref d)) > 0 : Sem Bool) _ _
  refine bind (any (exportsOf_no hd ?_))
  exact pure' (pure' h)
theorem write_ok {d : Addr} {b : Array UInt8} {f : Array UInt8 → Array UInt8} {Q : Unit → Shared → Prop} (hd : s.heap.get? d = some (bya b)) (hz : (f b).size ≤ sizeLine)
    (h : ∀ h', Heap.SameBut d s.heap h' → h'.get? d = some (bya (f b)) → Q () { s with heap := h' }) : wpAny (model prog w) A (Builtin.Bytes.write (.ref d) f) Q (fun _ _ => False) s := by
  have e : (s.heap.update d (Obj.mapBytearray f)).get? d = some (bya (f b)) := Heap.get?_update_self _ hd rfl
  show wpAny _ _ (updateBytearray d f) _ _ _
  unfold updateBytearray
  refine wpAny_bind (wpAny_load hd ?_)
  refine wpAny_bind (wpAny_update hd (wpAny_lookBehind e ?_ (h _ (Heap.SameBut.update ..) e)))
  show (if (f b).size > sizeLine then _ else none) = none
  rw [if_neg (Nat.not_lt.mpr hz)]
/-- a builtin's own code -/
theorem builtin {i : String} {args : Args} {b : Builtin} {R : Flow → Shared → Prop} (hb : entryFor table i = some b)
    (h : wpC (model prog w) (A.under (.builtin i args)) (b args) (fun fin s' => match fin with | .done f => R f s' | .again c' => c'.quiet = true ∧ okC c' = true ∧ codeC (model prog w) A c' R s') s) : codeC (model prog w) A (.builtin i args) R s := by
  refine of_tree ?_
  show wpC _ _ (match entryFor table i with | some b => b args | none => unsupported ((withoutEnding? i "#data").getD i)) _ s
  rw [hb]; exact h
theorem callBuiltin {T : String} {name : Str} {i : String} {b : Builtin} {self : Value} {rest : List Value} {R : Flow → Shared → Prop} (hs : Slot T name i) (hT : s.TypeIs self T) (hb : entryFor table i = some b) (ha : argsOk i ⟨self :: rest, []⟩) (ok : okC (.builtin i ⟨self :: rest, []⟩) = true)
    (h : wpC (model prog w) A.in1 (b ⟨self :: rest, []⟩) (fun fin s' => match fin with | .done f => R f s' | .again c' => c'.quiet = true ∧ okC c' = true ∧ codeC (model prog w) A c' R s') s) : codeC (model prog w) A (.call (.builtin i) ⟨self :: rest, []⟩) R s := by
  refine of_tree ?_
  show wpC _ A.in1 (do checkBuiltinCall i ⟨self :: rest, []⟩; again (.builtin i ⟨self :: rest, []⟩)) _ s
  refine bind (any (hs.check _ _ _ _ _ _ _ _ hT ha (pure' ⟨plainId_quiet hs.plain _, ok, builtin hb ?_⟩)))
  rw [Around.under_plainId hs.plain _]
  exact h
theorem append' {d : Addr} {b : Array UInt8} {k : Nat} {u : Tok} {Q : Value → Shared → Prop} (hd : s.heap.get? d = some (bya b)) (hk : k < 256) (hz : b.size < 1000)
    (h : ∀ h', Heap.SameBut d s.heap h' → h'.get? d = some (bya (b.push k.toUInt8)) → Q .none { s with heap := h' }) : wpC (model prog w) A (call (.builtin "bytearray.append") [.ref d, .int (k : Int) u]) Q s := by
  refine call' (callBuiltin X.slot_bytearray_append ⟨_, hd, rfl⟩ X.entry_bytearray_append (X.args_bytearray_append_2 _ _) (show okC (.builtin "bytearray.append" {}) = true by decide +kernel) ?_)
  show wpC _ _ (do let c ← Builtin.Bytes.byteValue (.int (k : Int) u); Builtin.Bytes.checkResize (.ref d); Builtin.Bytes.write (.ref d) (·.push c); ret .none) _ _
  refine bind ?_
  have e : Builtin.Bytes.byteValue (.int (k : Int) u) = (if ((k : Int) < 0 || (k : Int) ≥ 256) = true then (do rule "bytes.byte-out-of-range"; raiseError "ValueError" "byte must be in range(0, 256)"; return (k : Int).toNat.toUInt8) else pure (k : Int).toNat.toUInt8) := by rfl
  rw [e, if_neg (by simp; omega)]
  refine pure' (bind (checkResize_ok hd (bind (any (write_ok hd (by simp; unfold sizeLine; omega) fun h' hs ho => ?_)))))
  exact pure' (h h' hs (by rw [ho]; simp))
end
end C
end
-- C3
section
namespace X
theorem mro_bytearray : mroOf (.type "bytearray") = pure [.type "bytearray", .type "object"] := by rw [mroOf_type]; kernel_rfl
theorem lookup_bytearray_new : typeLookup (.type "bytearray") "__new__" = pure (some (.builtin "bytearray.__new__")) := by rw [typeLookup_type, builtinLookup_eq_fast]; kernel_rfl
theorem called_bytearray : TypeCalled "bytearray" "bytearray.__new__" "bytearray.__init__" :=
  ⟨by decide +kernel, by decide +kernel, ⟨_, _, mro_bytearray⟩, madeBy_type mro_bytearray lookup_bytearray_new (by decide +kernel), by decide +kernel, by rw [isSubtype_type]; kernel_rfl, slot_bytearray_init⟩
theorem typeCall_bytearray : checkTypeCall "bytearray" ⟨[], []⟩ = pure () := by kernel_rfl
theorem newCall_bytearray : checkBuiltinCall "bytearray.__new__" ⟨[.type "bytearray"], []⟩ = pure () := by kernel_rfl
theorem plain_bytearray_new : plainId "bytearray.__new__" = true := by decide +kernel
theorem entry_bytearray_new : entryFor table "bytearray.__new__" = some Builtin.«list.__new__» := entryFor_alias (id' := "list.__new__") (by kernel_rfl) rfl (by decide +kernel) (by kernel_rfl)
theorem sub_bytearray : isSubtype (.type "bytearray") (.type "bytearray") = pure true := by rw [isSubtype_type]; kernel_rfl
set_option maxRecDepth 1000000 in
set_option maxHeartbeats 4000000 in
theorem owner_new_bytearray : ("bytearray.__new__".splitOn ".__new__").headD "" = "bytearray" := by simp +decide [String.splitOn, String.splitOnAux]
theorem rel_bytearray : typeLookup (.type "bytearray") "__release_buffer__" = pure (some (.builtin "bytearray.__release_buffer__")) := by rw [typeLookup_type, builtinLookup_eq_fast]; kernel_rfl
theorem bind_bytearray : Builtin.Bytes.bindOptional "bytearray.__init__" "bytearray" ["source", "encoding", "errors"] [] [] = pure [none, none, none] := by kernel_rfl
end X
namespace C
section
variable {prog : Program} {w : World} {A : Around} {s : Shared} {E : Value → Shared → Prop}
theorem list_new {Q₁ : Value → Shared → Prop} (h : Q₁ (.ref s.heap.objs.size) { s with heap := s.heap.push { cls := .type "bytearray", data := .bytearray #[] } }) :
    codeAny (model prog w) A (.call (.builtin "bytearray.__new__") ⟨[.type "bytearray"], []⟩) (wants Q₁ E) s := by
  refine codeAny_of_tree ?_
  show wpAny _ A.in1 (do checkBuiltinCall "bytearray.__new__" ⟨[.type "bytearray"], []⟩; again (.builtin "bytearray.__new__" ⟨[.type "bytearray"], []⟩)) _ _ s
  refine wpAny_bind (wpAny_of_eq X.newCall_bytearray (wpAny_pure ⟨plainId_quiet X.plain_bytearray_new _, codeAny_builtin_stack X.entry_bytearray_new rfl fun p st => ?_⟩))
  rw [Around.under_plainId X.plain_bytearray_new _]
  have hsub := X.sub_bytearray
  have hown := X.owner_new_bytearray
  obtain ⟨hp, g, d, tk, os⟩ := s
  simp only [hown]
  wp_walk
  exact h
theorem newBya {Q : Value → Shared → Prop} (h : ∀ d h', d = s.heap.objs.size → (∀ b o, s.heap.get? b = some o → h'.get? b = some o) → h'.get? d = some (bya #[]) → Q (.ref d) { s with heap := h' }) : wpC (model prog w) A (call (.type "bytearray") []) Q s := by
  refine call' (of_tree ?_)
  show wpC _ _ (again (.builtin "type.__call__" ⟨[.type "bytearray"], []⟩)) _ _
  refine pure' ⟨Code.quiet_builtin _ (by decide +kernel), by decide +kernel, builtin entry_type_call ?_⟩
  rw [Around.under_plain (weight_type_call_type "bytearray" [] []) rfl]
  unfold Builtin.«type.__call__»
  dsimp only
  rw [if_neg (by decide), if_neg (by decide +kernel)]
  refine bind (any (wpAny_of_eq X.typeCall_bytearray ?_))
  refine bind (any (wpAny_of_eq X.mro_bytearray ?_))
  rw [if_neg (by decide)]
  refine bind (any (wpAny_of_eq X.called_bytearray.made ?_))
  dsimp only
  refine bind (pure' ?_)
  refine bind (holding' (any (wpAny_call (codeAny_mono (list_new (E := fun _ _ => False) (Q₁ := fun v s' => v = .ref s.heap.objs.size ∧ s' = { s with heap := s.heap.push { cls := .type "bytearray", data := .bytearray #[] } }) ⟨rfl, rfl⟩) fun r s' hr => ?_))))
  have done' : ∀ s₁ : Shared, s₁ = { s with heap := s.heap.push (bya #[]) } → wpC (model prog w) A.in1 (do
        let __do_lift ← isInstance (.ref s.heap.objs.size) (Value.type "bytearray")
        if (!__do_lift) = true then do
            rule "type.call.new-gave-other-type"
            ret (.ref s.heap.objs.size)
          else do
            let __do_lift ← holding [.ref s.heap.objs.size] (callSpecial? (.ref s.heap.objs.size) (Str.ofString "__init__"))
            match __do_lift with
              | none => ret (.ref s.heap.objs.size)
              | some r =>
                if (r != Value.none) = true then do
                  rule "type.call.init-returned-value"
                  let __do_lift ← PySem.typeNameOf r
                  raiseErrorMade "TypeError"
                      (toString "__init__() should return None, not '" ++ toString __do_lift ++ toString "'")
                  ret (.ref s.heap.objs.size)
                else ret (.ref s.heap.objs.size)) (fun fin s' =>
        match fin with
        | Fin.done f => match f with
          | Flow.ret v => Q v s'
          | x => False
        | Fin.again c' => c'.quiet = true ∧ okC c' = true ∧ codeC (model prog w) A c' (fun f s' =>
                  match f with
                  | Flow.ret v => Q v s'
                  | x => False) s') s₁ := by
    rintro _ rfl
    have hd : (s.heap.push (bya #[])).get? s.heap.objs.size = some (bya #[]) := Heap.get?_push_size _ rfl
    have hT : Shared.TypeIs { s with heap := s.heap.push (bya #[]) } (.ref s.heap.objs.size) "bytearray" := ⟨_, hd, rfl⟩
    refine bind (any (wpAny_isInstance hT X.sub_bytearray ?_))
    rw [if_neg (by decide)]
    refine bind (holding' ?_)
    unfold callSpecial?
    refine bind (any (wpAny_specialOf hT X.called_bytearray.init.lookup ?_))
    dsimp only
    refine holding' (bind ?_)
    rw [X.called_bytearray.init.bind]
    refine pure' (bind (call' (callBuiltin X.slot_bytearray_init hT X.entry_bytearray_init (X.args_bytearray_init_1 _) (show okC (.builtin "bytearray.__init__" {}) = true by decide +kernel) ?_)))
    unfold Builtin.«bytearray.__init__»
    dsimp only
    refine bind ?_
    unfold Builtin.Bytes.ownRelease Builtin.Bytes.slotIsOwn
    refine bind (bind (any (wpAny_specialOf hT X.rel_bytearray ?_)))
    dsimp only
    rw [if_neg (by decide +kernel)]
    refine any ?_
    have key : ∀ (x : String) (Q : Bool → Shared → Prop), x = "bytearray" → Q true { s with heap := s.heap.push (bya #[]) } → wpAny (model prog w) A.in1.in1 (isInstance (.ref s.heap.objs.size) (.type x)) Q (fun _ _ => False) { s with heap := s.heap.push (bya #[]) } := fun x Q hx hq => by
      subst hx; exact wpAny_isInstance hT X.sub_bytearray hq
    refine key _ _ (by decide +kernel) ?_
    refine pure' ?_
    rw [if_neg (by decide)]
    refine bind (any (wpAny_of_eq X.bind_bytearray ?_))
    dsimp only
    refine bind (any (wpAny_of_eq (a := ()) rfl ?_))
    refine bind (any (wpAny_of_eq (a := ()) rfl ?_))
    refine bind (bind (exported_no ?_))
    refine bind (any (exportsOf_no hd ?_))
    refine pure' ?_
    rw [if_neg (by decide)]
    refine bind (any (write_ok hd (Nat.zero_le _) fun h' hs ho => ?_))
    simp only [Option.isSome_none, Bool.false_eq_true, if_false]
    refine bind (pure' ?_)
    refine pure' ?_
    refine pure' (pure' ?_)
    refine h _ h' rfl (fun b o e => ?_) ho
    exact hs.extBut b o (Nat.ne_of_lt (Heap.lt_size e)) (Heap.get?_push_of_some _ e)
  match r, hr with
  | .ok (.ret v), ⟨e1, e2⟩ => subst e1; exact done' _ e2
end
end C
end
-- B9
section
namespace X
theorem bytes_bytes : typeLookup (.type "bytes") "__bytes__" = pure (some (.builtin "bytes.__bytes__")) := by rw [typeLookup_type, builtinLookup_eq_fast]; kernel_rfl
theorem ba_no_bytes : typeLookup (.type "bytearray") "__bytes__" = pure none := by rw [typeLookup_type, builtinLookup_eq_fast]; kernel_rfl
theorem ba_no_index : typeLookup (.type "bytearray") "__index__" = pure none := by rw [typeLookup_type, builtinLookup_eq_fast]; kernel_rfl
theorem ba_buffer : typeLookup (.type "bytearray") "__buffer__" = pure (some (.builtin "bytearray.__buffer__")) := by rw [typeLookup_type, builtinLookup_eq_fast]; kernel_rfl
end X
section
variable {prog : Program} {w : World} {A : Around} {E : Value → Shared → Prop}
  {gE hE g h : Heap} {S : List Addr} {L : Addr} {m : Str → Option Value} {mu : List (Addr × Obj)} {gs : Array GenState} {dr : Drawn} {tk : Nat} {os : OsState} {s : Shared}
  {x y : List UInt8} {t u : Tok} {Q : Value → Shared → Prop}
theorem byOfBy (hq : ∀ t', Q (.bytes x.toArray t') ⟨h, gs, dr, tk, os⟩) : wpAny (model prog w) A (call (.type "bytes") [.bytes x.toArray t]) Q E ⟨h, gs, dr, tk, os⟩ := by
  refine callType_codes (Q₁ := fun obj s₁ => obj = .bytes x.toArray t ∧ s₁ = ⟨h, gs, dr, tk, os⟩) F.bm_called (F.bm_typeCall _) F.entry_object_init ?_ fun obj s₁ h₁ => ?_
  · refine codeAny_of_tree ?_
    show wpAny _ A.in1.in1 (do checkBuiltinCall "bytes.__new__" ⟨[.type "bytes", .bytes x.toArray t], []⟩; again (.builtin "bytes.__new__" ⟨[.type "bytes", .bytes x.toArray t], []⟩)) _ _ _
    refine wpAny_bind (wpAny_of_eq (F.bm_newCall _) (wpAny_pure ⟨plainId_quiet F.bm_plain _, codeAny_builtin F.bm_entry ?_⟩))
    rw [Around.under_plainId F.bm_plain _]
    unfold Builtin.«bytes.__new__»
    refine wpAny_bind (wpAny_of_eq (a := true) rfl ?_)
    rw [if_neg (by decide)]
    refine wpAny_bind (wpAny_of_eq F.bm_sub ?_)
    rw [if_neg (by decide)]
    refine wpAny_bind (wpAny_of_eq (F.bm_bind _) ?_)
    refine wpAny_bind (wpAny_of_eq (a := ()) rfl ?_)
    refine wpAny_bind (wpAny_of_eq (a := ()) rfl ?_)
    dsimp only
    rw [if_neg (by decide)]
    refine wpAny_bind (wpAny_specialOf (T := "bytes") (typeIs_bytes _ _ _) X.bytes_bytes ?_)
    refine wpAny_bind (wpAny_rule ?_)
    refine wpAny_bind (wpAny_typeOf (T := "bytes") (typeIs_bytes _ _ _) ?_)
    rw [if_pos (by decide)]
    refine wpAny_of_eq (a := .done (.ret (.bytes x.toArray t))) (by kernel_rfl) ?_
    exact ⟨rfl, rfl⟩
  · obtain ⟨rfl, rfl⟩ := h₁
    exact ⟨typeIs_bytes _ _ _, F.args_object_init_2 _ _, object_init_meets F.bm_called.init.lookup F.bm_called.made (by decide) prog w A.in1 _ _ ⟨typeIs_bytes _ _ _, rfl, hq t⟩⟩
theorem byOfInts {l : Addr} {vs : List Value} {n : Nat} {ns : List Int} (st : St gE hE S g L m mu h) (hh : A.handled = none) (hl : h.get? l = some (lst vs.toArray n)) (hi : IntsAre vs ns) (hr : ∀ n ∈ ns, 0 ≤ n ∧ n < 256) (hz : vs.length ≤ 100000)
    (hq : ∀ h' tk' t', St gE hE S g L m mu h' → Q (.bytes (byteArr ns) t') ⟨h', gs, dr, tk', os⟩) : wpAny (model prog w) A (call (.type "bytes") [.ref l]) Q E ⟨h, gs, dr, tk, os⟩ :=
  call_bytes_ints (s := ⟨h, gs, dr, tk, os⟩) (isl hl) hi hr (by unfold sizeLine; omega) hh fun h' t k kk => hq h' k t (st.grow' kk)
theorem baMeth {d : Addr} {b : Array UInt8} {name : Str} {id : String} {pl : Sem Bool} {Q : Value × List Value → Shared → Prop} (hd : h.get? d = some (bya b)) (slot : Slot "bytearray" name id) (hty : typeOf (.builtin id) = pure (.type "method_descriptor"))
    (hq : Q (.builtin id, [.ref d]) ⟨h, gs, dr, tk, os⟩) : wpAny (model prog w) A (getMethod (.ref d) name pl) Q E ⟨h, gs, dr, tk, os⟩ :=
  getMethod_builtin (s := ⟨h, gs, dr, tk, os⟩) ⟨_, hd, rfl⟩ X.plainAttrs_bytearray slot hty (fun a e => by cases e; exact ⟨_, hd, rfl⟩) hq
theorem baLen {d : Addr} {b : Array UInt8} (hd : h.get? d = some (bya b)) (hz : b.size ≤ 1000) (hq : ∀ tk' t', Q (.int b.size t') ⟨h, gs, dr, tk', os⟩) : wpAny (model prog w) A (call (.builtin "len") [.ref d]) Q E ⟨h, gs, dr, tk, os⟩ := by
  have g : Meets (Builtin.«bytearray.__len__» ⟨[.ref d], []⟩) (fun _ R s => s.heap.get? d = some (bya b) ∧ R (.ok (.ret (.int b.size s.toks))) { s with toks := s.toks + 1 }) := by
    refine .of_wp fun prog w A R s hS => ?_
    obtain ⟨hd, hr⟩ := hS
    show wpAny _ _ (do let p ← Builtin.Bytes.payload (.ref d); retInt p.size) _ _ _
    refine wpAny_bind ?_
    unfold Builtin.Bytes.payload Builtin.Bytes.payload?
    refine wpAny_bind (wpAny_bind (wpAny_load hd (wpAny_pure (wpAny_pure ?_))))
    exact wpAny_bind (wpAny_mkInt (wpAny_pure ⟨_, rfl, hr⟩))
  exact call_len_meets (s := ⟨h, gs, dr, tk, os⟩) ⟨_, hd, rfl⟩ X.slot_bytearray_len X.entry_bytearray_len (X.args_bytearray_len_1 _) g (by omega) (by omega) (fun Q' q => ⟨hd, q⟩) (hq _ _)
theorem baReverse {d : Addr} {b : Array UInt8} (st : St gE hE S g L m mu h) (i : Nat) (hi : mu[i]? = some (d, bya b)) (hz : b.size ≤ 1000) (hq : ∀ h', St gE hE S g L m (mu.set i (d, bya b.reverse)) h' → Q .none ⟨h', gs, dr, tk, os⟩) :
    wpAny (model prog w) A (call (.builtin "bytearray.reverse") [.ref d]) Q (fun _ _ => False) ⟨h, gs, dr, tk, os⟩ := by
  have hd := st.at i hi
  refine wpAny_call_entry X.slot_bytearray_reverse ⟨_, hd, rfl⟩ X.entry_bytearray_reverse ?_ (X.args_bytearray_reverse_1 _)
  show wpAny _ _ (do Builtin.Bytes.write (.ref d) (·.reverse); ret .none) _ _ _
  exact wpAny_bind (C.write_ok (s := ⟨h, gs, dr, tk, os⟩) hd (by simp; unfold sizeLine; omega) fun h' hs ho => wpAny_pure ⟨_, rfl, hq h' (st.upd i hi hs ho)⟩)
theorem byOfBa {d : Addr} {b : Array UInt8} (hd : h.get? d = some (bya b)) (hz : b.size ≤ 1000) (hq : ∀ tk' t', Q (.bytes b t') ⟨h, gs, dr, tk', os⟩) : wpAny (model prog w) A (call (.type "bytes") [.ref d]) Q E ⟨h, gs, dr, tk, os⟩ := by
  refine callType_codes (Q₁ := fun obj s₁ => obj = .bytes b tk ∧ s₁ = ⟨h, gs, dr, tk + 1, os⟩) F.bm_called (F.bm_typeCall _) F.entry_object_init ?_ fun obj s₁ h₁ => ?_
  · refine codeAny_of_tree ?_
    have hT : Shared.TypeIs ⟨h, gs, dr, tk, os⟩ (.ref d) "bytearray" := ⟨_, hd, rfl⟩
    show wpAny _ A.in1.in1 (do checkBuiltinCall "bytes.__new__" ⟨[.type "bytes", .ref d], []⟩; again (.builtin "bytes.__new__" ⟨[.type "bytes", .ref d], []⟩)) _ _ _
    refine wpAny_bind (wpAny_of_eq (F.bm_newCall _) (wpAny_pure ⟨plainId_quiet F.bm_plain _, codeAny_builtin F.bm_entry ?_⟩))
    rw [Around.under_plainId F.bm_plain _]
    unfold Builtin.«bytes.__new__»
    refine wpAny_bind (wpAny_of_eq (a := true) rfl ?_)
    rw [if_neg (by decide)]
    refine wpAny_bind (wpAny_of_eq F.bm_sub ?_)
    rw [if_neg (by decide)]
    refine wpAny_bind (wpAny_of_eq (F.bm_bind _) ?_)
    refine wpAny_bind (wpAny_of_eq (a := ()) rfl ?_)
    refine wpAny_bind (wpAny_of_eq (a := ()) rfl ?_)
    dsimp only
    rw [if_neg (by decide)]
    refine wpAny_bind (wpAny_specialOf hT X.ba_no_bytes ?_)
    dsimp only
    refine wpAny_bind (wpAny_bind ?_)
    show wpAny _ _ (load d >>= _) _ _ _
    refine wpAny_bind (wpAny_load hd ?_)
    refine wpAny_pure (wpAny_pure ?_)
    rw [if_neg (by decide)]
    refine wpAny_bind (wpAny_specialOf hT X.ba_no_index ?_)
    rw [if_pos (by decide)]
    have key : ∀ {A : Around} (x : String) (Q : Bool → Shared → Prop) (E : Value → Shared → Prop), x = "bytearray" → Q true ⟨h, gs, dr, tk, os⟩ → wpAny (model prog w) A (isInstance (.ref d) (.type x)) Q E ⟨h, gs, dr, tk, os⟩ := fun x Q E hx hq => by
      subst hx; exact wpAny_isInstance hT X.sub_bytearray hq
    show wpAny _ _ (Builtin.Bytes.buffer? "bytes.__new__" (.ref d) true >>= _) _ _ _
    refine wpAny_bind ?_
    unfold Builtin.Bytes.buffer?
    refine wpAny_bind (wpAny_specialOf hT X.ba_buffer ?_)
    dsimp only
    unfold Builtin.Bytes.ownRelease Builtin.Bytes.slotIsOwn
    refine wpAny_bind (wpAny_bind (wpAny_specialOf hT X.ba_buffer ?_))
    dsimp only
    rw [if_neg (by decide +kernel)]
    refine key _ _ _ (by decide +kernel) ?_
    rw [if_neg (by decide)]
    refine wpAny_bind (wpAny_specialOf hT X.ba_buffer ?_)
    refine wpAny_bind (wpAny_bind (wpAny_bind (wpAny_specialOf hT X.rel_bytearray ?_)))
    dsimp only
    rw [if_neg (by decide +kernel)]
    refine key _ _ _ (by decide +kernel) ?_
    refine wpAny_pure ?_
    rw [if_neg (by decide)]
    unfold Builtin.Bytes.payload Builtin.Bytes.payload?
    refine wpAny_bind (wpAny_bind (wpAny_bind (wpAny_load hd (wpAny_pure (wpAny_pure (wpAny_pure ?_))))))
    dsimp only
    refine wpAny_bind (wpAny_rule (wpAny_bind (wpAny_mkBytes ?_ (by unfold sizeLine; omega))))
    refine wpAny_of_eq (a := .done (.ret (.bytes b tk))) (by kernel_rfl) ?_
    exact ⟨rfl, rfl⟩
  · obtain ⟨rfl, rfl⟩ := h₁
    exact ⟨typeIs_bytes _ _ _, F.args_object_init_2 _ _, object_init_meets F.bm_called.init.lookup F.bm_called.made (by decide) prog w A.in1 _ _ ⟨typeIs_bytes _ _ _, rfl, hq _ _⟩⟩
end
end
-- G
section
theorem g_octets_of {w : World} : nsIn (KK w) mainGlobals "octets_of" = some (some (.ref 71)) := by kernel_rfl
theorem g_hex_of {w : World} : nsIn (KK w) mainGlobals "hex_of" = some (some (.ref 78)) := by kernel_rfl
theorem g_big_endian {w : World} : nsIn (KK w) mainGlobals "big_endian" = some (some (.ref 83)) := by kernel_rfl
theorem g_treediff_kind {w : World} : nsIn (KK w) mainGlobals "treediff_kind" = some (some (.ref 119)) := by kernel_rfl
theorem g_treediff_joined {w : World} : nsIn (KK w) mainGlobals "treediff_joined" = some (some (.ref 126)) := by kernel_rfl
theorem g_treediff_order {w : World} : nsIn (KK w) mainGlobals "treediff_order" = some (some (.ref 207)) := by kernel_rfl
theorem g_treediff_folders {w : World} : nsIn (KK w) mainGlobals "treediff_folders" = some (some (.ref 215)) := by kernel_rfl
theorem g_treediff_entries {w : World} : nsIn (KK w) mainGlobals "treediff_entries" = some (some (.ref 222)) := by kernel_rfl
theorem g_treediff_added {w : World} : nsIn (KK w) mainGlobals "treediff_added" = some (some (.ref 229)) := by kernel_rfl
theorem g_treediff_gone {w : World} : nsIn (KK w) mainGlobals "treediff_gone" = some (some (.ref 236)) := by kernel_rfl
theorem g_treediff_beside {w : World} : nsIn (KK w) mainGlobals "treediff_beside" = some (some (.ref 243)) := by kernel_rfl
theorem g_treediff_is_alike {w : World} : nsIn (KK w) mainGlobals "treediff_is_alike" = some (some (.ref 250)) := by kernel_rfl
theorem g_diff_trees {w : World} : nsIn (KK w) mainGlobals "diff_trees" = some (some (.ref 256)) := by kernel_rfl
theorem g_treediff_within {w : World} : nsIn (KK w) mainGlobals "treediff_within" = some (some (.ref 261)) := by kernel_rfl
theorem g_object_has_sign {w : World} : nsIn (KK w) mainGlobals "object_has_sign" = some (some (.ref 269)) := by kernel_rfl
theorem g_object_are_all {w : World} : nsIn (KK w) mainGlobals "object_are_all" = some (some (.ref 276)) := by kernel_rfl
theorem g_object_by_eights {w : World} : nsIn (KK w) mainGlobals "object_by_eights" = some (some (.ref 325)) := by kernel_rfl
theorem g_object_name_fault {w : World} : nsIn (KK w) mainGlobals "object_name_fault" = some (some (.ref 332)) := by kernel_rfl
theorem g_tree_faults {w : World} : nsIn (KK w) mainGlobals "tree_faults" = some (some (.ref 374)) := by kernel_rfl
theorem g_check_tree {w : World} : nsIn (KK w) mainGlobals "check_tree" = some (some (.ref 381)) := by kernel_rfl
theorem g_object_octets {w : World} : nsIn (KK w) mainGlobals "object_octets" = some (some (.ref 388)) := by kernel_rfl
theorem g__law_deck {w : World} : nsIn (KK w) mainGlobals "_law_deck" = some (some (.ref 534)) := by kernel_rfl
theorem g__law_draw {w : World} : nsIn (KK w) mainGlobals "_law_draw" = some (some (.ref 541)) := by kernel_rfl
theorem g__law_tree {w : World} : nsIn (KK w) mainGlobals "_law_tree" = some (some (.ref 546)) := by kernel_rfl
theorem g__law_touches {w : World} : nsIn (KK w) mainGlobals "_law_touches" = some (some (.ref 551)) := by kernel_rfl
theorem g__law_row {w : World} : nsIn (KK w) mainGlobals "_law_row" = some (some (.ref 558)) := by kernel_rfl
theorem g_law {w : World} : nsIn (KK w) mainGlobals "law" = some (some (.ref 563)) := by kernel_rfl
theorem g_CountingHasher {w : World} : nsIn (KK w) mainGlobals "CountingHasher" = some (some (.ref 108)) := by kernel_rfl
theorem g_PathChange {w : World} : nsIn (KK w) mainGlobals "PathChange" = some (some (.ref 196)) := by kernel_rfl
theorem g_Entry {w : World} : nsIn (KK w) mainGlobals "Entry" = some (some (.ref 314)) := by kernel_rfl
theorem g_Tree {w : World} : nsIn (KK w) mainGlobals "Tree" = some (some (.ref 363)) := by kernel_rfl
theorem g_MemoryStore {w : World} : nsIn (KK w) mainGlobals "MemoryStore" = some (some (.ref 525)) := by kernel_rfl
theorem g_OBJECT_MODES {w : World} : nsIn (KK w) mainGlobals "OBJECT_MODES" = some (some (.ref 262)) := by kernel_rfl
theorem g_BLOB {w : World} : nsIn (KK w) mainGlobals "BLOB" = some (some (.bytes ([98, 108, 111, 98] : List UInt8).toArray 196)) := by kernel_rfl
theorem g_TREE {w : World} : nsIn (KK w) mainGlobals "TREE" = some (some (.bytes ([116, 114, 101, 101] : List UInt8).toArray 198)) := by kernel_rfl
theorem g_FILE {w : World} : nsIn (KK w) mainGlobals "FILE" = some (some (.int 33188 200)) := by kernel_rfl
theorem g_EXEC {w : World} : nsIn (KK w) mainGlobals "EXEC" = some (some (.int 33261 202)) := by kernel_rfl
theorem g_LINK {w : World} : nsIn (KK w) mainGlobals "LINK" = some (some (.int 40960 204)) := by kernel_rfl
theorem g_DIR {w : World} : nsIn (KK w) mainGlobals "DIR" = some (some (.int 16384 206)) := by kernel_rfl
theorem g_SUB {w : World} : nsIn (KK w) mainGlobals "SUB" = some (some (.int 57344 208)) := by kernel_rfl
theorem g_ADDED {w : World} : nsIn (KK w) mainGlobals "ADDED" = some (some (.str "A" 337)) := by kernel_rfl
theorem g_GONE {w : World} : nsIn (KK w) mainGlobals "GONE" = some (some (.str "D" 339)) := by kernel_rfl
theorem g_OTHER {w : World} : nsIn (KK w) mainGlobals "OTHER" = some (some (.str "M" 341)) := by kernel_rfl
theorem g_OTHER_KIND {w : World} : nsIn (KK w) mainGlobals "OTHER_KIND" = some (some (.str "T" 343)) := by kernel_rfl
theorem g_PLAIN {w : World} : nsIn (KK w) mainGlobals "PLAIN" = some (some (.str "file" 345)) := by kernel_rfl
theorem g_POINTER {w : World} : nsIn (KK w) mainGlobals "POINTER" = some (some (.str "link" 347)) := by kernel_rfl
theorem g_MODULE {w : World} : nsIn (KK w) mainGlobals "MODULE" = some (some (.str "module" 349)) := by kernel_rfl
theorem g_FOLDER {w : World} : nsIn (KK w) mainGlobals "FOLDER" = some (some (.str "folder" 351)) := by kernel_rfl
theorem b_len {w : World} : nsIn (KK w) mainGlobals "len" = some none ∧ bootBuiltins "len" = some (.builtin "len") ∧ ("len" : Str) ≠ "__name__" := ⟨by kernel_rfl, by kernel_rfl, by decide⟩
theorem b_sorted {w : World} : nsIn (KK w) mainGlobals "sorted" = some none ∧ bootBuiltins "sorted" = some (.builtin "sorted") ∧ ("sorted" : Str) ≠ "__name__" := ⟨by kernel_rfl, by kernel_rfl, by decide⟩
theorem b_ord {w : World} : nsIn (KK w) mainGlobals "ord" = some none ∧ bootBuiltins "ord" = some (.builtin "ord") ∧ ("ord" : Str) ≠ "__name__" := ⟨by kernel_rfl, by kernel_rfl, by decide⟩
theorem b_bytes {w : World} : nsIn (KK w) mainGlobals "bytes" = some none ∧ bootBuiltins "bytes" = some (.type "bytes") ∧ ("bytes" : Str) ≠ "__name__" := ⟨by kernel_rfl, by kernel_rfl, by decide⟩
theorem b_bytearray {w : World} : nsIn (KK w) mainGlobals "bytearray" = some none ∧ bootBuiltins "bytearray" = some (.type "bytearray") ∧ ("bytearray" : Str) ≠ "__name__" := ⟨by kernel_rfl, by kernel_rfl, by decide⟩
theorem b_range {w : World} : nsIn (KK w) mainGlobals "range" = some none ∧ bootBuiltins "range" = some (.type "range") ∧ ("range" : Str) ≠ "__name__" := ⟨by kernel_rfl, by kernel_rfl, by decide⟩
theorem b_str {w : World} : nsIn (KK w) mainGlobals "str" = some none ∧ bootBuiltins "str" = some (.type "str") ∧ ("str" : Str) ≠ "__name__" := ⟨by kernel_rfl, by kernel_rfl, by decide⟩
theorem b_int {w : World} : nsIn (KK w) mainGlobals "int" = some none ∧ bootBuiltins "int" = some (.type "int") ∧ ("int" : Str) ≠ "__name__" := ⟨by kernel_rfl, by kernel_rfl, by decide⟩
theorem m_108_digest {w : World} : methOk (KK w) 108 105 "digest" = true := by kernel_rfl
theorem m_314_sort_key {w : World} : methOk (KK w) 314 297 "sort_key" = true := by kernel_rfl
theorem m_314_octets {w : World} : methOk (KK w) 314 311 "octets" = true := by kernel_rfl
theorem m_363_octets {w : World} : methOk (KK w) 363 353 "octets" = true := by kernel_rfl
theorem m_525_keep {w : World} : methOk (KK w) 525 409 "keep" = true := by kernel_rfl
theorem m_525_write {w : World} : methOk (KK w) 525 416 "write" = true := by kernel_rfl
theorem m_525_write_tree {w : World} : methOk (KK w) 525 423 "write_tree" = true := by kernel_rfl
theorem m_525_row_of {w : World} : methOk (KK w) 525 465 "row_of" = true := by kernel_rfl
theorem m_525_of_kind {w : World} : methOk (KK w) 525 486 "of_kind" = true := by kernel_rfl
theorem m_525_tree {w : World} : methOk (KK w) 525 500 "tree" = true := by kernel_rfl
end
-- B10
section
section
variable {prog : Program} {w : World} {mg mb : Str → Option Value} {p : Program} {loose : List Str} {A : Around} {E : Value → Shared → Prop}
  {gE hE g h : Heap} {S : List Addr} {L : Addr} {m : Str → Option Value} {mu : List (Addr × Obj)} {gs : Array GenState} {dr : Drawn} {tk : Nat} {os : OsState} {s : Shared}
  {x y : List UInt8} {t u : Tok} {Q : Value → Shared → Prop} {a b : Int} {env : Env} {pos : Pos}
-- bytes
theorem eqB (hq : Q (.bool (x == y)) ⟨h, gs, dr, tk, os⟩) : wpAny (model prog w) A (compareOp .Eq (.bytes x.toArray t) (.bytes y.toArray u)) Q E ⟨h, gs, dr, tk, os⟩ := PySem.W.eq_bytes hq
theorem neB (hq : Q (.bool (x != y)) ⟨h, gs, dr, tk, os⟩) : wpAny (model prog w) A (compareOp .NotEq (.bytes x.toArray t) (.bytes y.toArray u)) Q E ⟨h, gs, dr, tk, os⟩ := PySem.W.ne_bytes hq
theorem lenB (hz : x.length ≤ 1000000) (hq : ∀ tk' t', Q (.int x.length t') ⟨h, gs, dr, tk', os⟩) : wpAny (model prog w) A (call (.builtin "len") [.bytes x.toArray t]) Q E ⟨h, gs, dr, tk, os⟩ := PySem.W.len_bytes (by simp; omega) (by have := hq (tk + 1 + 1) (tk + 1); simpa using this)
theorem lenL {l : Addr} {its : List Value} {n : Nat} (hl : h.get? l = some (lst its.toArray n)) (hz : its.length ≤ 1000000) (hq : ∀ tk' t', Q (.int its.length t') ⟨h, gs, dr, tk', os⟩) : wpAny (model prog w) A (call (.builtin "len") [.ref l]) Q E ⟨h, gs, dr, tk, os⟩ :=
  Calls.call_len_list (s := ⟨h, gs, dr, tk, os⟩) (isl hl) (by simp; omega) (by have := hq (tk + 1 + 1) (tk + 1); simpa using this)
-- ints
theorem eqI (hq : Q (.bool (a == b)) ⟨h, gs, dr, tk, os⟩) : wpAny (model prog w) A (compareOp .Eq (.int a t) (.int b u)) Q E ⟨h, gs, dr, tk, os⟩ := P.eq_int hq
theorem neI (hq : Q (.bool (a != b)) ⟨h, gs, dr, tk, os⟩) : wpAny (model prog w) A (compareOp .NotEq (.int a t) (.int b u)) Q E ⟨h, gs, dr, tk, os⟩ := P.ne_int hq
theorem gtI (hq : Q (.bool (decide (a > b))) ⟨h, gs, dr, tk, os⟩) : wpAny (model prog w) A (compareOp .Gt (.int a t) (.int b u)) Q E ⟨h, gs, dr, tk, os⟩ := P.gt_int hq
theorem geI (hq : Q (.bool (decide (a ≥ b))) ⟨h, gs, dr, tk, os⟩) : wpAny (model prog w) A (compareOp .GtE (.int a t) (.int b u)) Q E ⟨h, gs, dr, tk, os⟩ := P.ge_int hq
theorem addI (hq : ∀ tk' t', Q (.int (a + b) t') ⟨h, gs, dr, tk', os⟩) : wpAny (model prog w) A (binaryOp .Add (.int a t) (.int b u)) Q E ⟨h, gs, dr, tk, os⟩ := P.add_int (hq _ _)
theorem subI (hq : ∀ tk' t', Q (.int (a - b) t') ⟨h, gs, dr, tk', os⟩) : wpAny (model prog w) A (binaryOp .Sub (.int a t) (.int b u)) Q E ⟨h, gs, dr, tk, os⟩ := P.sub_int (hq _ _)
-- None and not
theorem isNoneN (hq : Q (.bool true) ⟨h, gs, dr, tk, os⟩) : wpAny (model prog w) A (compareOp .Is .none .none) Q E ⟨h, gs, dr, tk, os⟩ := wpAny_is_self rfl hq
theorem isNoneR {d : Addr} (hq : Q (.bool false) ⟨h, gs, dr, tk, os⟩) : wpAny (model prog w) A (compareOp .Is (.ref d) .none) Q E ⟨h, gs, dr, tk, os⟩ := wpAny_is_other rfl (fun e => nomatch e) hq
theorem isNoneB {v : Array UInt8} (hq : Q (.bool false) ⟨h, gs, dr, tk, os⟩) : wpAny (model prog w) A (compareOp .Is (.bytes v t) .none) Q E ⟨h, gs, dr, tk, os⟩ := wpAny_is_other rfl (fun e => nomatch e) hq
theorem notNoneN (hq : Q (.bool false) ⟨h, gs, dr, tk, os⟩) : wpAny (model prog w) A (compareOp .IsNot .none .none) Q E ⟨h, gs, dr, tk, os⟩ := wpAny_isNot_self rfl hq
theorem notNoneR {d : Addr} (hq : Q (.bool true) ⟨h, gs, dr, tk, os⟩) : wpAny (model prog w) A (compareOp .IsNot (.ref d) .none) Q E ⟨h, gs, dr, tk, os⟩ := wpAny_isNot_other rfl (fun e => nomatch e) hq
theorem notNoneB {v : Array UInt8} (hq : Q (.bool true) ⟨h, gs, dr, tk, os⟩) : wpAny (model prog w) A (compareOp .IsNot (.bytes v t) .none) Q E ⟨h, gs, dr, tk, os⟩ := wpAny_isNot_other rfl (fun e => nomatch e) hq
theorem eqNoneN (hq : Q (.bool true) ⟨h, gs, dr, tk, os⟩) : wpAny (model prog w) A (compareOp .Eq .none .none) Q E ⟨h, gs, dr, tk, os⟩ := EqNone.eq_none_none hq
-- strs
theorem eqS {x y : Str} (hq : Q (.bool (x.cps.toList == y.cps.toList)) ⟨h, gs, dr, tk, os⟩) : wpAny (model prog w) A (compareOp .Eq (.str x t) (.str y u)) Q E ⟨h, gs, dr, tk, os⟩ := P.eq_str hq
theorem neS {x y : Str} (hq : Q (.bool (x.cps.toList != y.cps.toList)) ⟨h, gs, dr, tk, os⟩) : wpAny (model prog w) A (compareOp .NotEq (.str x t) (.str y u)) Q E ⟨h, gs, dr, tk, os⟩ := P.ne_str hq
-- a builtin is called
theorem cB {i : String} {first : List Value} {e : Expr} {rest : List Expr} (hq : wpAny (model prog w) A (spliced (backTo pos (starEach (e :: rest) env))) (fun vs s₁ => wpAny (model prog w) A (call (.builtin i) (first ++ vs)) Q E s₁) E s)
    (hpl : plainArgs (e :: rest) = true := by kernel_rfl) :
    wpAny (model prog w) A (callWith pos (.builtin i) first (backTo pos (starEach (e :: rest) env)) []) Q E s := by
  rw [(pa1 hpl)] at hq ⊢
  exact Calls.callWith_builtin (by show (false || (backTo pos (starEach rest env)).any (·.1)) = false; rw [(pa2 hpl)]; rfl) (evalArgs_plain hq)
theorem cB0 {i : String} {first : List Value} (hq : wpAny (model prog w) A (call (.builtin i) (first ++ [])) Q E s) : wpAny (model prog w) A (callWith pos (.builtin i) first (backTo pos (starEach [] env)) []) Q E s :=
  Calls.callWith_builtin rfl (evalArgs_nil3 hq)
theorem cT {T : String} {e : Expr} {rest : List Expr} (hq : wpAny (model prog w) A (spliced (backTo pos (starEach (e :: rest) env))) (fun vs s₁ => wpAny (model prog w) A (call (.type T) vs) Q E s₁) E s)
    (hpl : plainArgs (e :: rest) = true := by kernel_rfl) :
    wpAny (model prog w) A (callWith pos (.type T) [] (backTo pos (starEach (e :: rest) env)) []) Q E s := by
  rw [(pa1 hpl)] at hq ⊢
  exact PySem.callWith_type (by show (false || (backTo pos (starEach rest env)).any (·.1)) = false; rw [(pa2 hpl)]; rfl) (evalArgs_plain hq)
-- items
theorem tItem {value slice : Expr} {d : Addr} {its : List Value} {n : Nat} {k : Nat} {v : Value} (ht : h.get? d = some (tup its.toArray n)) (hk : k < 1000) (hv : its[k]? = some v) (hq : Q v ⟨h, gs, dr, tk, os⟩)
    (hs : subscripted slice false (.ref d) (.int (k : Int) u) = operate [.ref d, .int (k : Int) u] (getItem (.ref d) (.int (k : Int) u)) := by kernel_rfl) : wpAny (model prog w) A (subscriptTail value slice (.ref d) (.int (k : Int) u)) Q E ⟨h, gs, dr, tk, os⟩ := by
  have hlt : k < its.length := (List.getElem?_eq_some_iff.mp hv).1
  refine tail_any (s := ⟨h, gs, dr, tk, os⟩) (T := "tuple") ⟨_, ht, rfl⟩ slot_tuple_getitem.lookup (getItem_tuple (j := k) (ist ht) (by omega) (by omega) ?_ (by simpa using hv) hq) hs
  have h0 : ¬ (k : Int) < 0 := by omega
  simp [seqIndex?, h0, hlt]
theorem lItem {value slice : Expr} {d : Addr} {its : List Value} {n : Nat} {k : Nat} {v : Value} (ht : h.get? d = some (lst its.toArray n)) (hk : k < 1000) (hv : its[k]? = some v) (hq : Q v ⟨h, gs, dr, tk, os⟩)
    (hs : subscripted slice false (.ref d) (.int (k : Int) u) = operate [.ref d, .int (k : Int) u] (getItem (.ref d) (.int (k : Int) u)) := by kernel_rfl) : wpAny (model prog w) A (subscriptTail value slice (.ref d) (.int (k : Int) u)) Q E ⟨h, gs, dr, tk, os⟩ :=
  tail_any (s := ⟨h, gs, dr, tk, os⟩) (T := "list") ⟨_, ht, rfl⟩ slot_list_getitem.lookup (wpAny_getItem_list (s := ⟨h, gs, dr, tk, os⟩) (isl ht) (by omega) (by omega) (by simpa using hv) hq) hs
-- slices
theorem xCut {value : Expr} {lower upper : Option Expr} {p : Pos} (hq : wpAny (model prog w) A (eval value env) (fun o s₁ => wpAny (model prog w) A (evalPart lower env) (fun l s₂ => wpAny (model prog w) A (evalPart upper env) (fun u s₃ =>
      wpAny (model prog w) A (subscriptTail value (.Slice lower upper none p) o (.ref s₃.heap.objs.size)) Q E { s₃ with heap := s₃.heap.push { cls := .type "slice", data := .fields #[l, u, .none] } }) E s₂) E s₁) E s) :
    wpAny (model prog w) A (eval (.Subscript value (.Slice lower upper none p) pos) env) Q E s :=
  Subscript_ (wpAny_mono hq (fun o s₁ q => wpAny_Slice (wpAny_mono q (fun l s₂ q => wpAny_mono q (fun u s₃ q => wpAny_pure q) fun _ _ e => e) fun _ _ e => e)) fun _ _ e => e)
theorem partN {Q : Value → Shared → Prop} (hq : Q .none s) : wpAny (model prog w) A (evalPart none env) Q E s := wpAny_pure hq
theorem partS {e : Expr} (hq : wpAny (model prog w) A (eval e env) Q E s) : wpAny (model prog w) A (evalPart (some e) env) Q E s := hq
noncomputable def cutL {α : Type} (x : List α) (lo hi : Option Int) : List α := (x.drop (lo.elim 0 (clipAt x.length))).take (hi.elim x.length (clipAt x.length) - lo.elim 0 (clipAt x.length))
theorem cutL_from {α : Type} {x : List α} {n : Nat} : cutL x (some n) none = x.drop n := by
  unfold cutL clipAt
  simp
  have h0 : ¬ ((n : Int) < 0) := by omega
  simp only [h0, if_false]
  rcases Nat.lt_or_ge n x.length with q | q
  · rw [show (max 0 (min (n : Int) x.length)).toNat = n by omega, List.take_of_length_le (by simp)]
  · rw [show (max 0 (min (n : Int) x.length)).toNat = x.length by omega]
    simp [List.drop_of_length_le q]
theorem cutL_upto {α : Type} {x : List α} {n : Nat} : cutL x none (some n) = x.take n := by
  unfold cutL clipAt
  simp
  have h0 : ¬ ((n : Int) < 0) := by omega
  simp only [h0, if_false]
  rcases Nat.lt_or_ge n x.length with q | q
  · rw [show (max 0 (min (n : Int) x.length)).toNat = n by omega]
  · rw [show (max 0 (min (n : Int) x.length)).toNat = x.length by omega]
    simp
    omega
theorem cutL_butLast {α : Type} {x : List α} : cutL x none (some (-1)) = x.dropLast := by
  unfold cutL clipAt
  simp
  rw [List.dropLast_eq_take, show (max 0 (min (-1 + (x.length : Int)) x.length)).toNat = x.length - 1 by omega]
theorem byCut {value slice : Expr} {l v : Value} {lo hi : Option Int} (st : St gE hE S g L m mu h) (hl : IsPart l lo) (hu : IsPart v hi) (hz : x.length ≤ 100000) (hq : ∀ h' tk' t', St gE hE S g L m mu h' → Q (.bytes (cutL x lo hi).toArray t') ⟨h', gs, dr, tk', os⟩)
    (hs : subscripted slice false (.bytes x.toArray t) (.ref h.objs.size) = operate [.ref h.objs.size, .bytes x.toArray t] (getItem (.bytes x.toArray t) (.ref h.objs.size)) := by kernel_rfl) :
    wpAny (model prog w) A (subscriptTail value slice (.bytes x.toArray t) (.ref h.objs.size)) Q E ⟨h.push { cls := .type "slice", data := .fields #[l, v, .none] }, gs, dr, tk, os⟩ := by
  have sz : (KBy.picked x.toArray lo hi) = (cutL x lo hi).toArray := by rw [KBc.picked_eq]; unfold cutL; simp
  refine tail_any (s := ⟨h.push { cls := .type "slice", data := .fields #[l, v, .none] }, gs, dr, tk, os⟩) (T := "bytes") (typeIs_bytes _ _ _) FB.slot_bytes_getitem.lookup
    (getItem_meets (typeIs_bytes _ _ _) (by decide) FB.slot_bytes_getitem FB.entry_bytes_getitem (FB.args_bytes_getitem_2 _ _) (KBc.meets_slice2 x.toArray t _ hl hu) ⟨Heap.IsSliceOf.new _ _ _ _, ?_, fun t' k => ?_⟩) hs
  · refine Nat.le_trans (KBc.size_picked_le _ _ _) ?_
    simp; unfold sizeLine; omega
  · rw [sz]
    exact hq _ k t' (st.grow' fun b o e => Heap.get?_push_of_some _ e)
end
end
-- F0
section
noncomputable abbrev BY := List UInt8
/-- a value that is bytes or None -/
inductive OB : Value → Option BY → Prop
  | none : OB .none none
  | some (b : BY) (t : Tok) : OB (.bytes b.toArray t) (some b)
structure En where
  mode : Nat
  name : BY
  oid : BY
  deriving DecidableEq
structure Ch where
  word : Str
  oid : Option BY
  opath : Option BY
  nid : Option BY
  npath : Option BY
  deriving DecidableEq
noncomputable def IsEn (g : Heap) (v : Value) (e : En) : Prop := ∃ x t1 t2 t3, v = .ref x ∧ InstF g x 314 [("mode", .int e.mode t1), ("name", .bytes e.name.toArray t2), ("oid", .bytes e.oid.toArray t3)]
noncomputable def IsCh (g : Heap) (v : Value) (c : Ch) : Prop := ∃ x t m1 m2 v1 v2 v3 v4 sc, v = .ref x ∧ InstF g x 196 [("word", .str c.word t), ("old_mode", m1), ("old_id", v1), ("old_path", v2), ("new_mode", m2), ("new_id", v3), ("new_path", v4), ("score", sc)] ∧ OB v1 c.oid ∧ OB v2 c.opath ∧ OB v3 c.nid ∧ OB v4 c.npath
inductive All2 {α : Type} (P : Value → α → Prop) : List Value → List α → Prop
  | nil : All2 P [] []
  | cons {v : Value} {a : α} {vs : List Value} {as : List α} : P v a → All2 P vs as → All2 P (v :: vs) (a :: as)
noncomputable def IsTr (g : Heap) (v : Value) (es : List En) : Prop := ∃ x l vs n, v = .ref x ∧ InstF g x 363 [("entries", .ref l)] ∧ g.get? l = some (lst vs.toArray n) ∧ All2 (IsEn g) vs es

theorem All2.mono {α : Type} {P R : Value → α → Prop} (k : ∀ v a, P v a → R v a) : ∀ {vs : List Value} {as : List α}, All2 P vs as → All2 R vs as
  | _, _, .nil => .nil
  | _, _, .cons a b => .cons (k _ _ a) (b.mono k)
theorem All2.length {α : Type} {P : Value → α → Prop} : ∀ {vs : List Value} {as : List α}, All2 P vs as → vs.length = as.length
  | _, _, .nil => rfl
  | _, _, .cons a b => by simp [b.length]
theorem All2.get {α : Type} {P : Value → α → Prop} : ∀ {vs : List Value} {as : List α} {i : Nat} {a : α}, All2 P vs as → as[i]? = some a → ∃ v, vs[i]? = some v ∧ P v a
  | _, _, _, _, .nil, e => by simp at e
  | _, _, 0, _, .cons a b, e => by simp at e; subst e; exact ⟨_, rfl, a⟩
  | _, _, i + 1, _, .cons a b, e => by simp at e; exact b.get e
theorem All2.get' {α : Type} {P : Value → α → Prop} : ∀ {vs : List Value} {as : List α} {i : Nat} {v : Value}, All2 P vs as → vs[i]? = some v → ∃ a, as[i]? = some a ∧ P v a
  | _, _, _, _, .nil, e => by simp at e
  | _, _, 0, _, .cons a b, e => by simp at e; subst e; exact ⟨_, rfl, a⟩
  | _, _, i + 1, _, .cons a b, e => by simp at e; exact b.get' e
theorem All2.append {α : Type} {P : Value → α → Prop} : ∀ {vs ws : List Value} {as bs : List α}, All2 P vs as → All2 P ws bs → All2 P (vs ++ ws) (as ++ bs)
  | _, _, _, _, .nil, h => h
  | _, _, _, _, .cons a b, h => .cons a (b.append h)
theorem All2.snoc {α : Type} {P : Value → α → Prop} {v : Value} {a : α} {vs : List Value} {as : List α} (h : All2 P vs as) (p : P v a) : All2 P (vs ++ [v]) (as ++ [a]) := h.append (.cons p .nil)

theorem Step.drop {S : List Addr} {g h g' h' : Heap} (s : Step S g h g' h') : Step S g h g h' := ⟨Sub.rfl, fun _ _ => rfl, s.frame, s.size⟩
theorem Own.drop {g g' h : Heap} {mu : List (Addr × Obj)} (o : Own g' h mu) (k : Sub g g') : Own g h mu :=
  ⟨k.trans o.keep, fun p hp => ⟨(o.mem p hp).1, by
    cases q : g.get? p.1 with
    | none => rfl
    | some x => have := (o.mem p hp).2; rw [k _ _ q] at this; cases this⟩, o.nd⟩
theorem IsEn.sub {g g' : Heap} {v : Value} {e : En} (I : IsEn g v e) (k : Sub g g') : IsEn g' v e := let ⟨x, a, b, c, d, i⟩ := I; ⟨x, a, b, c, d, i.sub k⟩
theorem IsCh.sub {g g' : Heap} {v : Value} {e : Ch} (I : IsCh g v e) (k : Sub g g') : IsCh g' v e := let ⟨x, a, b, c, d, e, f, j, l, m, i, r⟩ := I; ⟨x, a, b, c, d, e, f, j, l, m, i.sub k, r⟩
theorem IsTr.sub {g g' : Heap} {v : Value} {e : List En} (I : IsTr g v e) (k : Sub g g') : IsTr g' v e := let ⟨x, l, vs, n, a, i, b, c⟩ := I; ⟨x, l, vs, n, a, i.sub k, k _ _ b, c.mono fun _ _ q => q.sub k⟩

section
variable {prog : Program} {w : World} {A : Around} {E : Value → Shared → Prop} {h : Heap} {gs : Array GenState} {dr : Drawn} {tk : Nat} {os : OsState} {s : Shared} {t : Tok}
theorem testsNil {M : Model} {cenv : Env} {Q : Bool → Shared → Prop} (hq : Q true s) : wpAny M A (testsOf [] cenv) Q E s := wpAny_pure hq
theorem ordC {c : Nat} {Q : Value → Shared → Prop} (hq : ∀ tk' t', Q (.int (c : Int) t') ⟨h, gs, dr, tk', os⟩) : wpAny (model prog w) A (call (.builtin "ord") [.str ⟨#[c]⟩ t]) Q E ⟨h, gs, dr, tk, os⟩ := PySem.P.ord_of_char (hq _ _)
end
section
variable {prog : Program} {w : World} {mg mb : Str → Option Value} {p : Program} {loose : List Str} {A : Around} {E : Value → Shared → Prop} {gE hE g h : Heap} {S : List Addr} {L : Addr} {m : Str → Option Value} {mu : List (Addr × Obj)} {gs : Array GenState} {dr : Drawn} {tk : Nat} {os : OsState}
  {env : Env} {pos : Pos} {f a : Value} {Q : Value → Shared → Prop} {e : Expr} {rest : List Expr} {s : Shared} {i T : String}
theorem cBn (hq : wpAny (model prog w) A (spliced (backTo pos (starEach (e :: rest) env))) (fun vs s₁ => wpAny (model prog w) A (call (.builtin i) vs) Q E s₁) E s)
    (hpl : plainArgs (e :: rest) = true := by kernel_rfl) :
    wpAny (model prog w) A (callWith pos (.builtin i) [] (backTo pos (starEach (e :: rest) env)) []) Q E s := cB hq hpl
theorem cB1 (hq : wpAny (model prog w) A (spliced (backTo pos (starEach (e :: rest) env))) (fun vs s₁ => wpAny (model prog w) A (call (.builtin i) (a :: vs)) Q E s₁) E s)
    (hpl : plainArgs (e :: rest) = true := by kernel_rfl) :
    wpAny (model prog w) A (callWith pos (.builtin i) [a] (backTo pos (starEach (e :: rest) env)) []) Q E s := cB hq hpl
theorem cB01 (hq : wpAny (model prog w) A (call (.builtin i) [a]) Q E s) : wpAny (model prog w) A (callWith pos (.builtin i) [a] (backTo pos (starEach [] env)) []) Q E s := cB0 hq
theorem cGn (hk : keepIn (KK w) f = true) (h : wpAny (model prog w) A (spliced (backTo pos (starEach (e :: rest) env))) (fun vs s₁ => (KK w).In s₁.heap ∧ wpAny (model prog w) A (call f vs) Q E s₁) E s)
    (hpl : plainArgs (e :: rest) = true := by kernel_rfl) :
    wpAny (model prog w) A (callWith pos f [] (backTo pos (starEach (e :: rest) env)) []) Q E s := cG hk h hpl
theorem cG1 (hk : keepIn (KK w) f = true) (h : wpAny (model prog w) A (spliced (backTo pos (starEach (e :: rest) env))) (fun vs s₁ => (KK w).In s₁.heap ∧ wpAny (model prog w) A (call f (a :: vs)) Q E s₁) E s)
    (hpl : plainArgs (e :: rest) = true := by kernel_rfl) :
    wpAny (model prog w) A (callWith pos f [a] (backTo pos (starEach (e :: rest) env)) []) Q E s := cG hk h hpl
theorem cG01 (st : St gE hE S g L m mu h) (C : Cx w mg mb p loose g) (hk : keepIn (KK w) f = true) (hq : wpAny (model prog w) A (call f [a]) Q E ⟨h, gs, dr, tk, os⟩) :
    wpAny (model prog w) A (callWith pos f [a] (backTo pos (starEach [] env)) []) Q E ⟨h, gs, dr, tk, os⟩ := cG0 st C hk hq
theorem xFor {target iter body pos} {Q : Flow → Shared → Prop}
    (h : wpAny (model prog w) A (eval iter env) (fun x s₁ => wpAny (model prog w) A (pyIter x) (fun it s₂ => codeAny (model prog w) A (.forLoop target it body [] env) (fun r s' => match r with | .ok f => Q f s' | .error e => cameBackBy (model prog w) A env E e s') s₂) E s₁) E s)
    (hs : ∀ x, foldedSetIterable iter env x = pure x := by intro _; kernel_rfl) : wpAny (model prog w) A (exec (.For target iter body [] pos) env) Q E s := wpAny_For h hs
theorem xWhile {test body pos} {Q : Flow → Shared → Prop}
    (h : codeAny (model prog w) A (.whileLoop test body [] env) (fun r s' => match r with | .ok f => Q f s' | .error e => cameBackBy (model prog w) A env E e s') s) : wpAny (model prog w) A (exec (.While test body [] pos) env) Q E s := wpAny_While h
end
theorem ifP {c : Prop} {i : Decidable c} {P R : Prop} (h : c) (x : P) : @ite Prop c i P R := by rw [if_pos h]; exact x
theorem ifN {c : Prop} {i : Decidable c} {P R : Prop} (h : ¬c) (x : R) : @ite Prop c i P R := by rw [if_neg h]; exact x
theorem ifT {P R : Prop} (h : P) : if true = true then P else R := by simpa using h
theorem ifF {P R : Prop} (h : R) : if false = true then P else R := by simpa using h
end
-- F00
section
section
variable {prog : Program} {w : World} {mg mb : Str → Option Value} {p : Program} {loose : List Str} {A : Around} {E : Value → Shared → Prop}
  {gE hE g h : Heap} {S : List Addr} {L : Addr} {m : Str → Option Value} {mu : List (Addr × Obj)} {gs : Array GenState} {dr : Drawn} {tk : Nat} {os : OsState}

/-- the cells of a frame at L, as objects -/
noncomputable def cellObjs (obj : Addr → Obj) (cs : List (Str × Addr)) : List (Addr × Obj) := cs.map fun x => (x.2, obj x.2)

/-- a frame with cells -/
theorem envCells {fd : FuncData} {f : Addr} {binds : List (Str × Value)} {Q : Env → Shared → Prop} (ow : Own g h mu) (hclo : fd.closure = []) (hk : fd.scope.kind = .function)
    (hkind : ∀ x ∈ binds, fd.scope.names.lookup x.1 = some .local ∨ (fd.scope.names.lookup x.1 = some .cell ∧ ((cellsFrom (h.objs.size + 1) fd.scope.names []).lookup x.1).isSome = true))
    (hnd : ((cellsFrom 0 fd.scope.names []).map (·.1)).Nodup)
    (walk : ∀ h₁ tk₁ obj, (∀ n c, (cellsFrom (h.objs.size + 1) fd.scope.names []).lookup n = some c → (obj c).data = .cell (bindC (callEnvC fd h.objs.size f).kindOf binds (fun _ => none) n)) →
      Sub h h₁ → St g h (mu.map (·.1)) g h.objs.size (bindL (callEnvC fd h.objs.size f).kindOf binds fun _ => none) (cellObjs obj (cellsFrom (h.objs.size + 1) fd.scope.names []) ++ mu) h₁ → Q (callEnvC fd h.objs.size f) ⟨h₁, gs, dr, tk₁, os⟩) :
    wpAny (model prog w) A (newFunctionEnv fd.scope fd.globals fd.closure binds (fd.qualname ++ ".<locals>.") (some f) fd.code none fd.builtins) Q E ⟨h, gs, dr, tk, os⟩ := by
  rw [hclo]
  refine wpAny_newFunctionEnv_cells (s := ⟨h, gs, dr, tk, os⟩) hk hkind fun env he s' x => ?_
  subst he
  obtain ⟨h₁, tk₁, rfl⟩ := x.toInCall.same
  have hk₁ : Sub h h₁ := x.toInCall.keep
  have ns := x.toInCall.ns
  have nd : ((cellsFrom (h.objs.size + 1) fd.scope.names []).map (·.1)).Nodup := cellsFrom_names fd.scope.names 0 (h.objs.size + 1) [] [] rfl ▸ hnd
  have hcell : ∀ n c, (n, c) ∈ cellsFrom (h.objs.size + 1) fd.scope.names [] → h₁.IsCell c (bindC (callEnvC fd h.objs.size f).kindOf binds (fun _ => none) n) := fun n c hm => x.cell n c (lookup_of_mem_nodup nd hm)
  let obj : Addr → Obj := fun c => (h₁.get? c).getD default
  have hobj : ∀ n c, (n, c) ∈ cellsFrom (h.objs.size + 1) fd.scope.names [] → h₁.get? c = some (obj c) ∧ (obj c).data = .cell (bindC (callEnvC fd h.objs.size f).kindOf binds (fun _ => none) n) := fun n c hm => by
    obtain ⟨o, ho, hd⟩ := hcell n c hm
    have : obj c = o := by show (h₁.get? c).getD default = o; rw [ho]; rfl
    rw [this]; exact ⟨ho, hd⟩
  have gnone : ∀ a, h.objs.size ≤ a → g.get? a = none := fun a ha => by
    cases q : g.get? a with
    | none => rfl
    | some x => exact absurd (Heap.lt_size (ow.keep _ _ q)) (Nat.not_lt.mpr ha)
  have habove : ∀ n c, (n, c) ∈ cellsFrom (h.objs.size + 1) fd.scope.names [] → h.objs.size < c := fun n c hm => x.above n c hm
  refine walk h₁ tk₁ obj (fun n c hl => (hobj n c (mem_of_lookup hl)).2) hk₁ ⟨⟨ow.keep.trans hk₁, fun q hq => ?_, ?_⟩, ⟨Sub.rfl, fun _ _ => rfl, fun b o e _ => hk₁ b o e, Nat.le_of_lt ns.lt⟩, ns, gnone _ (Nat.le_refl _), Nat.le_refl _, fun q hq => ?_⟩
  · rcases List.mem_append.mp hq with hq | hq
    · obtain ⟨⟨n, c⟩, hm, rfl⟩ := List.mem_map.mp hq
      exact ⟨(hobj n c hm).1, gnone _ (Nat.le_of_lt (habove n c hm))⟩
    · exact ⟨hk₁ _ _ (ow.mem q hq).1, (ow.mem q hq).2⟩
  · rw [List.map_append, List.nodup_append]
    refine ⟨?_, ow.nd, fun a ha b hb => ?_⟩
    · unfold cellObjs
      rw [List.map_map]
      have := x.apart
      show (List.map (fun y : Str × Addr => y.2) _).Nodup
      exact List.Pairwise.map _ (fun _ _ q => q) this
    · obtain ⟨p1, hp1, rfl⟩ := List.mem_map.mp ha
      obtain ⟨⟨n, c⟩, hm, rfl⟩ := List.mem_map.mp hp1
      obtain ⟨p2, hp2, rfl⟩ := List.mem_map.mp hb
      exact Nat.ne_of_gt (Nat.lt_trans (Heap.lt_size (ow.mem p2 hp2).1) (habove n c hm))
  · rcases List.mem_append.mp hq with hq | hq
    · obtain ⟨⟨n, c⟩, hm, rfl⟩ := List.mem_map.mp hq
      exact ⟨Nat.ne_of_gt (habove n c hm), .inr (Nat.le_of_lt (habove n c hm))⟩
    · exact ⟨Nat.ne_of_lt (Heap.lt_size (ow.mem q hq).1), .inl (List.mem_map_of_mem hq)⟩

/-- a def of the text that has cells is entered -/
theorem enterCells {n : Nat} {f : Addr} {fd : FuncData} {oc : Value} {od : Option Addr} {osl : Array (Option Value)} {body : List Stmt} {args : Args} {binds : List (Str × Value)} {R : Result → Shared → Prop}
    (C : Cx w mg mb p loose g) (ow : Own g h mu) (rm : Rm A (n + 1))
    (hf : (KK w).lookup f = some ⟨oc, od, .func fd, osl⟩) (hcd : codeIn (KK w) fd.code fd.qualname = true) (hbody : fd.body = .stmts body)
    (hbind : BindsTo ⟨h, gs, dr, tk, os⟩ fd args binds) (hclo : fd.closure = [])
    (hkind : (binds.all fun x => decide (fd.scope.names.lookup x.1 = some .local) || (decide (fd.scope.names.lookup x.1 = some .cell) && ((cellsFrom 0 fd.scope.names []).lookup x.1).isSome)) = true)
    (hnd' : decide (((cellsFrom 0 fd.scope.names []).map (·.1)).Nodup) = true)
    (walk : ∀ E h₁ tk₁ obj, Rm (A.deeper (callEnvC fd h.objs.size f)) n → (∀ n c, (cellsFrom (h.objs.size + 1) fd.scope.names []).lookup n = some c → (obj c).data = .cell (bindC (callEnvC fd h.objs.size f).kindOf binds (fun _ => none) n)) →
      St g h (mu.map (·.1)) g h.objs.size (bindL (callEnvC fd h.objs.size f).kindOf binds fun _ => none) (cellObjs obj (cellsFrom (h.objs.size + 1) fd.scope.names []) ++ mu) h₁ →
      ∀ Z : Flow → Shared → Prop, (∀ fl s', R (.ok (.ret (match fl with | .ret v => v | _ => .none))) s' → Z fl s') →
      wpAny (model prog w) (A.deeper (callEnvC fd h.objs.size f)) (execs body (callEnvC fd h.objs.size f)) Z E ⟨h₁, gs, dr, tk₁, os⟩)
    (hco : fd.scope.isCoroutine = false) (hgen : fd.scope.isGenerator = false) (hk : fd.scope.kind = .function) :
    codeAny (model prog w) A (.call (.ref f) args) R ⟨h, gs, dr, tk, os⟩ := by
  have lim := C.T.nolimit.keeps ow.keep
  have hnd := of_decide_eq_true hnd'
  refine codeAny_call_function (s := ⟨h, gs, dr, tk, os⟩) rm.lim ((C.X.keeps ow.keep) _ _ hf) rfl hco hgen hbody (codeRec_of (C.X.keeps ow.keep) hcd) (hbind _ _ _ _ ?_)
  refine envCells ow hclo hk (fun x hx => ?_) hnd fun h₁ tk₁ obj ho kk st => ⟨lim.keeps kk, codeAny_func (walk _ h₁ tk₁ obj rm.deeper ho st _ fun _ _ x => x)⟩
  have := List.all_eq_true.mp hkind x hx
  simp only [Bool.or_eq_true, Bool.and_eq_true, decide_eq_true_eq] at this
  rcases this with q | ⟨q, r⟩
  · exact .inl q
  · refine .inr ⟨q, ?_⟩
    have hn := cellsFrom_names fd.scope.names 0 (h.objs.size + 1) [] [] rfl
    obtain ⟨c, hc⟩ := Option.isSome_iff_exists.mp r
    have hm : x.1 ∈ (cellsFrom 0 fd.scope.names []).map (·.1) := List.mem_map.mpr ⟨_, mem_of_lookup hc, rfl⟩
    rw [hn] at hm
    obtain ⟨⟨n', c'⟩, hm', e⟩ := List.mem_map.mp hm
    have := lookup_of_mem_nodup (hn ▸ hnd) hm'
    rw [← e, this]
    rfl
section names
variable {env : Env} {x : Str} {pos : Pos} {v : Value} {Q : Value → Shared → Prop} {c : Addr} {o : Obj}
theorem cellAt {a b : Addr} (h : env.cells.lookup x = some a) (e : a = b) : env.cells.lookup x = some b := e ▸ h
theorem nC (ho : h.get? c = some o) (hd : o.data = .cell (some v)) (hq : Q v ⟨h, gs, dr, tk, os⟩) (hc : env.cells.lookup x = some c := by kernel_rfl)
    (hn : nameIs env x .cell = true := by kernel_rfl) (hd' : (x == ("__debug__" : Str)) = false := by kernel_rfl) :
    wpAny (model prog w) A (eval (.Name x pos) env) Q E ⟨h, gs, dr, tk, os⟩ := wpAny_Name (wpAny_loadName_cell (nameIs.one hn) (nameIs.two hn) hc ⟨o, ho, hd⟩ hq) hd'
theorem nF (ho : h.get? c = some o) (hd : o.data = .cell (some v)) (hq : Q v ⟨h, gs, dr, tk, os⟩) (hc : env.cells.lookup x = some c := by kernel_rfl)
    (hf : nameIs env x .free = true := by kernel_rfl) (hd' : (x == ("__debug__" : Str)) = false := by kernel_rfl) (hn : (x == ("__classdict__" : Str)) = false := by kernel_rfl) :
    wpAny (model prog w) A (eval (.Name x pos) env) Q E ⟨h, gs, dr, tk, os⟩ := wpAny_Name (wpAny_loadName_free (nameIs.one hf) (nameIs.two hf) hc ⟨o, ho, hd⟩ hq hn) hd'
theorem sC {Q : Unit → Shared → Prop} {v₀ : Option Value} (st : St gE hE S g L m mu h) (i : Nat) (hi : mu[i]? = some (c, o)) (hd : o.data = .cell v₀) (hq : ∀ h' o', o'.data = .cell (some v) → St gE hE S g L m (mu.set i (c, o')) h' → Q () ⟨h', gs, dr, tk, os⟩)
    (hc : env.cells.lookup x = some c := by kernel_rfl) (hn : nameIs env x .cell = true := by kernel_rfl) : wpAny (model prog w) A (storeName env x v) Q E ⟨h, gs, dr, tk, os⟩ := by
  refine wpAny_storeName_cell (s := ⟨h, gs, dr, tk, os⟩) (nameIs.one hn) (nameIs.two hn) hc ⟨o, st.at i hi, hd⟩ fun h' hcell hs => ?_
  obtain ⟨o', ho', hd'⟩ := hcell
  exact hq h' o' hd' (st.upd i hi hs ho')
end names
section
variable {a b : Int} {t u : Tok} {Q : Value → Shared → Prop} {s : Shared}
theorem andI (hq : ∀ tk' t', Q (.int (a % 256) t') ⟨h, gs, dr, tk', os⟩) : wpAny (model prog w) A (binaryOp .BitAnd (.int a t) (.int 255 u)) Q E ⟨h, gs, dr, tk, os⟩ := PyProof.Rows.and_int (by rw [bitAnd_m8]; exact hq _ _)
theorem shrI {k : Nat} (hk : b = (k : Int)) (hq : ∀ tk' t', Q (.int (a.fdiv (2 ^ k)) t') ⟨h, gs, dr, tk', os⟩) : wpAny (model prog w) A (binaryOp .RShift (.int a t) (.int b u)) Q E ⟨h, gs, dr, tk, os⟩ := by
  subst hk; exact PyProof.Rows.rshift_int (by omega) (by have := hq (tk + 1) tk; simpa using this)
theorem modI (hb : b ≠ 0) (hq : ∀ tk' t', Q (.int (a.fmod b) t') ⟨h, gs, dr, tk', os⟩) : wpAny (model prog w) A (binaryOp .Mod (.int a t) (.int b u)) Q E ⟨h, gs, dr, tk, os⟩ := PyProof.Rows.mod_int' hb (hq _ _)
theorem fdivI (hb : b ≠ 0) (ha : 0 ≤ a ∧ a < 4611686018427387904) (hb' : 0 ≤ b ∧ b < 1073741824) (hq : ∀ tk' t', Q (.int (a.fdiv b) t') ⟨h, gs, dr, tk', os⟩) : wpAny (model prog w) A (binaryOp .FloorDiv (.int a t) (.int b u)) Q E ⟨h, gs, dr, tk, os⟩ :=
  PyProof.Rows.floordiv_int hb (hq _ _) (.inl (PyProof.noPylong_small (by omega)))
theorem mulI (ha : 0 ≤ a ∧ a < 1048576) (hq : ∀ tk' t', Q (.int (a * b) t') ⟨h, gs, dr, tk', os⟩) : wpAny (model prog w) A (binaryOp .Mult (.int a t) (.int b u)) Q E ⟨h, gs, dr, tk, os⟩ :=
  P.mul_int (hq _ _) (IntMulOk.of_left (by
    unfold Builtin.Int.intBits
    split
    · omega
    · rename_i q
      have h0 : a.natAbs ≠ 0 := by simpa using q
      have := (Nat.log2_lt (k := 20) h0).mpr (by omega)
      omega))
end
theorem rNew {n : Int} {t : Tok} {Q : Value → Shared → Prop} (st : St gE hE S g L m mu h) (hq : ∀ d g' h' tk' t u v, Sub g g' → IsRange g' d 0 n 1 t u v → St gE hE S g' L m mu h' → Q (.ref d) ⟨h', gs, dr, tk', os⟩) :
    wpAny (model prog w) A (call (.type "range") [.int n t]) Q E ⟨h, gs, dr, tk, os⟩ := by
  refine call_range_1 (s := ⟨h, gs, dr, tk, os⟩) ?_
  obtain ⟨g', sg, hg, _, st'⟩ := (st.new { cls := .type "range", data := .fields #[.int 0 tk, .int n t, .int 1 (tk + 1)] }).freeze st.step.size
  exact hq _ g' _ _ _ _ _ sg hg st'
/-- an object of a class is made: its object and its fields stay as they are -/
theorem mkEnd {x dx Cl : Addr} {o : Obj} {fs : List (Str × Value)} {h' h'' : Heap} {mu0 : List (Addr × Obj)} (hx : h.objs.size ≤ x) (hdx : h.objs.size ≤ dx) (sub : Sub h h') (sz : h.objs.size ≤ h'.objs.size)
    (st : St g h' [x, dx] g L m ((x, instObj Cl dx) :: (dx, o) :: mu0) h'') (F : FDict o fs) :
    ∃ g', Sub g g' ∧ InstF g' x Cl fs ∧ Own g' h'' mu0 ∧ Step [] g h g' h'' := by
  have s1 : Step [x, dx] g h g h'' := (⟨Sub.rfl, fun _ _ => rfl, fun b o e _ => sub b o e, sz⟩ : Step [x, dx] g h g h').trans st.step
  have s2 : Step [] g h g h'' := s1.mono fun a ha => by
    rcases List.mem_cons.mp ha with rfl | ha
    · exact .inr hx
    · rw [List.mem_singleton.mp ha]; exact .inr hdx
  obtain ⟨g1, k1, a1, _, ow1, s3⟩ := st.own.freeze s2 hx
  obtain ⟨g2, k2, a2, b2, ow2, s4⟩ := ow1.freeze s3 hdx
  exact ⟨g2, k1.trans k2, ⟨dx, o, k2 _ _ a1, a2, F.look⟩, ow2, s4⟩
theorem strI {n : Nat} {t : Tok} {Q : Value → Shared → Prop} (hn : n < 1000000) (hq : ∀ tk' t', Q (.str (Str.ofString (toString (n : Int))) t') ⟨h, gs, dr, tk', os⟩) : wpAny (model prog w) A (call (.type "str") [.int (n : Int) t]) Q E ⟨h, gs, dr, tk, os⟩ := by
  refine PySem.P.str_of_int ?_ (hq _ _)
  rw [Int.natAbs_natCast]
  by_cases h0 : n = 0
  · subst h0; decide
  · exact Nat.lt_trans ((Nat.log2_lt (k := 20) h0).mpr (by omega)) (by decide)
end
end
-- P0
section
noncomputable def be4 (n : Nat) : BY := (List.range 4).map fun i => (n / 2 ^ (8 * (3 - i)) % 256).toUInt8
theorem be4_len {n : Nat} : (be4 n).length = 4 := rfl
/-- a number in figures -/
noncomputable def digB (n : Nat) : BY := ((Str.ofString (toString (n : Int))).cps.toList).map Nat.toUInt8
noncomputable def objB (kind content : BY) : BY := kind ++ [32] ++ digB content.length ++ [0] ++ content
noncomputable def oct8 (m : Nat) : BY := if m = 33188 then [49, 48, 48, 54, 52, 52] else [52, 48, 48, 48, 48]
noncomputable def enOct (e : En) : BY := oct8 e.mode ++ [32] ++ e.name ++ [0] ++ e.oid
inductive Thing
  | blob (b : BY)
  | tree (es : List En)
noncomputable def Thing.kind : Thing → BY
  | .blob _ => [98, 108, 111, 98]
  | .tree _ => [116, 114, 101, 101]
noncomputable def Thing.octs : Thing → BY
  | .blob b => b
  | .tree es => (es.map enOct).flatten
noncomputable def Thing.cont (t : Thing) : BY := objB t.kind t.octs
noncomputable def pushC (cs : List BY) (c : BY) : List BY := if c ∈ cs then cs else cs ++ [c]
noncomputable def pushT (items : List Thing) (t : Thing) : List Thing := if t.cont ∈ items.map Thing.cont then items else items ++ [t]
noncomputable def idOf (items : List Thing) (t : Thing) : BY := be4 ((items.map Thing.cont).idxOf t.cont + 1)
theorem pushT_cont {items : List Thing} {t : Thing} : (pushT items t).map Thing.cont = pushC (items.map Thing.cont) t.cont := by
  unfold pushT pushC
  split <;> simp

/-- a value of the kept dict -/
noncomputable def IsKp (g : Heap) (v : Value) : Thing → Prop
  | .blob b => ∃ x n t1 t2, v = .ref x ∧ g.get? x = some (tup #[.bytes [98, 108, 111, 98].toArray t1, .bytes b.toArray t2] n)
  | .tree es => ∃ x n t1 y, v = .ref x ∧ g.get? x = some (tup #[.bytes [116, 114, 101, 101].toArray t1, y] n) ∧ IsTr g y es
theorem IsKp.sub {g g' : Heap} {v : Value} {t : Thing} (I : IsKp g v t) (k : Sub g g') : IsKp g' v t := by
  cases t with
  | blob b => obtain ⟨x, n, t1, t2, a, b⟩ := I; exact ⟨x, n, t1, t2, a, k _ _ b⟩
  | tree es => obtain ⟨x, n, t1, y, a, b, c⟩ := I; exact ⟨x, n, t1, y, a, k _ _ b, c.sub k⟩
noncomputable def IsKnown (kvs : List (BY × Value)) (cs : List BY) : Prop := kvs.length = cs.length ∧ ∀ (i : Nat) (c : BY), cs[i]? = some c → ∃ t, kvs[i]? = some (c, .int ((i + 1 : Nat) : Int) t)
noncomputable def IsKept (g : Heap) (kvs : List (BY × Value)) (items : List Thing) : Prop := kvs.length = items.length ∧ ∀ (i : Nat) (th : Thing), items[i]? = some th → ∃ v, kvs[i]? = some (be4 (i + 1), v) ∧ IsKp g v th
theorem IsKept.sub {g g' : Heap} {kvs : List (BY × Value)} {items : List Thing} (I : IsKept g kvs items) (k : Sub g g') : IsKept g' kvs items :=
  ⟨I.1, fun i th e => let ⟨v, a, b⟩ := I.2 i th e; ⟨v, a, b.sub k⟩⟩
theorem IsKnown.nil : IsKnown [] [] := ⟨rfl, fun i c e => by simp at e⟩
theorem IsKept.nil {g : Heap} : IsKept g [] [] := ⟨rfl, fun i c e => by simp at e⟩

theorem valueAt_none {kvs : List (BY × Value)} {k : BY} (h : k ∉ kvs.map (·.1)) : valueAt kvs k = none := by
  unfold valueAt
  rw [List.find?_eq_none.mpr]
  · rfl
  · intro x hx e
    exact h (List.mem_map.mpr ⟨x, hx, by simpa using e⟩)
theorem valueAt_some {kvs : List (BY × Value)} (nd : (kvs.map (·.1)).Nodup) {i : Nat} {k : BY} {v : Value} (h : kvs[i]? = some (k, v)) : valueAt kvs k = some v := by
  unfold valueAt
  induction kvs generalizing i with
  | nil => simp at h
  | cons x r ih =>
    rw [List.map_cons, List.nodup_cons] at nd
    cases i with
    | zero => simp at h; subst h; simp
    | succ i =>
      simp at h
      have hm : k ∈ r.map (·.1) := List.mem_map.mpr ⟨_, List.mem_of_getElem? h, rfl⟩
      rw [List.find?_cons_of_neg (by simp; intro e; exact nd.1 (e ▸ hm))]
      exact ih nd.2 h
theorem stored_new {kvs : List (BY × Value)} {k : BY} {v : Value} (h : k ∉ kvs.map (·.1)) : stored kvs k v = kvs ++ [(k, v)] := by
  unfold stored
  rw [if_neg]
  rw [List.any_eq_true]
  rintro ⟨x, hx, e⟩
  exact h (List.mem_map.mpr ⟨x, hx, by simpa using e⟩)
theorem keys_of {kvs : List (BY × Value)} {ks : List BY} (hl : kvs.length = ks.length) (h : ∀ (i : Nat) (c : BY), ks[i]? = some c → ∃ v, kvs[i]? = some (c, v)) : kvs.map (·.1) = ks := by
  apply List.ext_getElem?
  intro i
  rw [List.getElem?_map]
  cases e : ks[i]? with
  | none =>
    rw [List.getElem?_eq_none_iff] at e
    rw [List.getElem?_eq_none (by omega)]
    rfl
  | some c => obtain ⟨v, hv⟩ := h i c e; rw [hv]; rfl
theorem IsKnown.keys {kvs : List (BY × Value)} {cs : List BY} (I : IsKnown kvs cs) : kvs.map (·.1) = cs := keys_of I.1 fun i c e => let ⟨t, h⟩ := I.2 i c e; ⟨_, h⟩
theorem IsKnown.push {kvs : List (BY × Value)} {cs : List BY} {c : BY} {t : Tok} (I : IsKnown kvs cs) (h : c ∉ cs) : IsKnown (stored kvs c (.int ((cs.length + 1 : Nat) : Int) t)) (pushC cs c) := by
  rw [stored_new (by rw [I.keys]; exact h), pushC, if_neg h]
  refine ⟨by simp [I.1], fun i d e => ?_⟩
  rcases Nat.lt_or_ge i cs.length with q | q
  · rw [List.getElem?_append_left q] at e
    rw [List.getElem?_append_left (by rw [I.1]; exact q)]
    exact I.2 i d e
  · rw [List.getElem?_append_right q] at e
    rw [List.getElem?_append_right (by rw [I.1]; exact q), I.1]
    cases hj : i - cs.length with
    | zero =>
      rw [hj] at e; simp at e; subst e
      have : i = cs.length := by omega
      subst this
      exact ⟨t, rfl⟩
    | succ j => rw [hj] at e; simp at e

theorem IsKnown.push' {kvs : List (BY × Value)} {cs : List BY} {c : BY} {i : Int} (I : IsKnown kvs cs) (h : c ∉ cs) (hi : i = (kvs.length : Int) + 1) (t : Tok) : IsKnown (stored kvs c (.int i t)) (pushC cs c) := by
  have := I.push (t := t) h
  rw [← I.1] at this
  rw [hi]
  exact this
theorem valueAt_stored {kvs : List (BY × Value)} {c : BY} {v : Value} (nd : (kvs.map (·.1)).Nodup) (h : c ∉ kvs.map (·.1)) : valueAt (stored kvs c v) c = some v := by
  rw [stored_new h]
  refine valueAt_some (i := kvs.length) ?_ (by simp)
  rw [List.map_append, List.nodup_append]
  exact ⟨nd, by simp, fun a ha b hb => by simp at hb; subst hb; intro e; subst e; exact h ha⟩
theorem idx_push {cs : List BY} {c : BY} (h : c ∉ cs) : (pushC cs c).idxOf c = cs.length := by
  rw [pushC, if_neg h, List.idxOf_append, if_neg h]
  simp
theorem push_nodup {cs : List BY} {c : BY} (nd : cs.Nodup) : (pushC cs c).Nodup := by
  unfold pushC
  split
  · exact nd
  · rename_i h
    rw [List.nodup_append]
    exact ⟨nd, by simp, fun a ha b hb => by simp at hb; subst hb; intro e; subst e; exact h ha⟩
/-- be4 is one-to-one on small numbers -/
theorem be4_inj {a b : Nat} (ha : a < 65536) (hb : b < 65536) (h : be4 a = be4 b) : a = b := by
  unfold be4 at h
  have h2 := congrArg (fun l : BY => (l[2]?).map UInt8.toNat) h
  have h3 := congrArg (fun l : BY => (l[3]?).map UInt8.toNat) h
  simp [List.range_succ] at h2 h3
  omega
theorem IsKept.keys {g : Heap} {kvs : List (BY × Value)} {items : List Thing} (I : IsKept g kvs items) : kvs.map (·.1) = (List.range items.length).map fun i => be4 (i + 1) := by
  refine keys_of (by rw [I.1]; simp) fun i c e => ?_
  rw [List.getElem?_map] at e
  obtain ⟨j, hj, rfl⟩ := Option.map_eq_some_iff.mp e
  have hlt : i < items.length := by
    have := (List.getElem?_eq_some_iff.mp hj).1
    simpa using this
  have : j = i := by simp [hlt] at hj; exact hj.symm
  subst this
  obtain ⟨v, hv, _⟩ := I.2 j _ (List.getElem?_eq_getElem hlt)
  exact ⟨v, hv⟩
theorem IsKept.nodup {g : Heap} {kvs : List (BY × Value)} {items : List Thing} (I : IsKept g kvs items) (hz : items.length ≤ 60000) : (kvs.map (·.1)).Nodup := by
  rw [I.keys]
  rw [List.Nodup, List.pairwise_map]
  refine List.Pairwise.imp_of_mem (R := fun a b => a ≠ b) (fun {a b} ha hb ne e => ?_) List.nodup_range
  have ha := List.mem_range.mp ha
  have hb := List.mem_range.mp hb
  have := be4_inj (by omega) (by omega) e
  omega
theorem IsKept.get {g : Heap} {kvs : List (BY × Value)} {items : List Thing} (I : IsKept g kvs items) (hz : items.length ≤ 60000) {i : Nat} {th : Thing} (h : items[i]? = some th) : ∃ v, valueAt kvs (be4 (i + 1)) = some v ∧ IsKp g v th := by
  obtain ⟨v, hv, hk⟩ := I.2 i th h
  exact ⟨v, valueAt_some (I.nodup hz) hv, hk⟩
theorem IsKept.miss {g : Heap} {kvs : List (BY × Value)} {items : List Thing} (I : IsKept g kvs items) (hz : items.length ≤ 60000) {i : Nat} (h : items.length ≤ i) (hi : i ≤ 60000) : be4 (i + 1) ∉ kvs.map (·.1) := by
  rw [I.keys]
  intro q
  obtain ⟨j, hj, e⟩ := List.mem_map.mp q
  have hj := List.mem_range.mp hj
  have := be4_inj (by omega) (by omega) e
  omega
theorem IsKept.push {g : Heap} {kvs : List (BY × Value)} {items : List Thing} {th : Thing} {v : Value} (I : IsKept g kvs items) (hz : items.length ≤ 60000) (hk : IsKp g v th) : IsKept g (stored kvs (be4 (items.length + 1)) v) (items ++ [th]) := by
  rw [stored_new (I.miss hz (Nat.le_refl _) (by omega))]
  refine ⟨by simp [I.1], fun i d e => ?_⟩
  rcases Nat.lt_or_ge i items.length with q | q
  · rw [List.getElem?_append_left q] at e
    rw [List.getElem?_append_left (by rw [I.1]; exact q)]
    exact I.2 i d e
  · rw [List.getElem?_append_right q] at e
    rw [List.getElem?_append_right (by rw [I.1]; exact q), I.1]
    cases hj : i - items.length with
    | zero =>
      rw [hj] at e; simp at e; subst e
      have : i = items.length := by omega
      subst this
      exact ⟨v, rfl, hk⟩
    | succ j => rw [hj] at e; simp at e
noncomputable def StoreAt (g : Heap) (S kn kd : Addr) : Prop := ∃ H t0, InstF g S 525 [("hasher", .ref H), ("kept", .ref kd)] ∧ InstF g H 108 [("size", .int 4 t0), ("known", .ref kn)]
theorem StoreAt.sub {g g' : Heap} {S kn kd : Addr} (I : StoreAt g S kn kd) (k : Sub g g') : StoreAt g' S kn kd := let ⟨H, t, a, b⟩ := I; ⟨H, t, a.sub k, b.sub k⟩
structure StF (prog : Program) (w : World) (g : Heap) (kn kd : Addr) (o1 o2 : Obj) (items : List Thing) : Prop where
  a : ∃ kvs, DM prog w kn o1 kvs ∧ IsKnown kvs (items.map Thing.cont)
  b : ∃ kvs, DM prog w kd o2 kvs ∧ IsKept g kvs items
  nd : (items.map Thing.cont).Nodup
theorem StF.sub {prog : Program} {w : World} {g g' : Heap} {kn kd : Addr} {o1 o2 : Obj} {items : List Thing} (I : StF prog w g kn kd o1 o2 items) (k : Sub g g') : StF prog w g' kn kd o1 o2 items :=
  ⟨I.a, let ⟨kvs, a, b⟩ := I.b; ⟨kvs, a, b.sub k⟩, I.nd⟩
theorem digB_ascii {n : Nat} : (Str.ofString (toString (n : Int))).cps.all (· < 128) = true := by
  rw [Array.all_eq_true_iff_forall_mem]
  intro c hc
  have hc : c ∈ (Str.ofString (toString (n : Int))).cps.toList := by simpa using hc
  rw [PySem.W.KIN.signs_num] at hc
  obtain ⟨ch, hch, rfl⟩ := List.mem_map.mp hc
  have := Nat.isDigit_of_mem_toDigits (by decide) (by decide) hch
  simp [Char.isDigit] at this
  have h2 : ch.toNat ≤ 57 := this.2
  simp
  omega
theorem digB_size {n : Nat} : (Str.ofString (toString (n : Int))).cps.size ≤ n + 2 := by
  have := len_str_of_int (n : Int)
  rw [Int.natAbs_natCast] at this
  have e : (Str.ofString (toString (n : Int))).length = (Str.ofString (toString (n : Int))).cps.size := rfl
  omega
end
theorem walksOne : True := by
  k_with_none
  k_with "g" => first
    | with_reducible exact g_ADDED
    | with_reducible exact g_BLOB
    | with_reducible exact g_CountingHasher
    | with_reducible exact g_DIR
    | with_reducible exact g_Entry
    | with_reducible exact g_FILE
    | with_reducible exact g_FOLDER
    | with_reducible exact g_GONE
    | with_reducible exact g_LINK
    | with_reducible exact g_MODULE
    | with_reducible exact g_MemoryStore
    | with_reducible exact g_OBJECT_MODES
    | with_reducible exact g_OTHER
    | with_reducible exact g_OTHER_KIND
    | with_reducible exact g_PLAIN
    | with_reducible exact g_PathChange
    | with_reducible exact g_SUB
    | with_reducible exact g_TREE
    | with_reducible exact g_Tree
    | with_reducible exact g__law_deck
    | with_reducible exact g__law_draw
    | with_reducible exact g__law_row
    | with_reducible exact g__law_touches
    | with_reducible exact g__law_tree
    | with_reducible exact b_bytearray
    | with_reducible exact b_bytes
    | with_reducible exact b_int
    | with_reducible exact b_len
    | with_reducible exact b_ord
    | with_reducible exact b_range
    | with_reducible exact b_sorted
    | with_reducible exact b_str
    | with_reducible exact g_big_endian
    | with_reducible exact g_check_tree
    | with_reducible exact g_diff_trees
    | with_reducible exact g_object_are_all
    | with_reducible exact g_object_by_eights
    | with_reducible exact g_object_has_sign
    | with_reducible exact g_object_name_fault
    | with_reducible exact g_object_octets
    | with_reducible exact g_octets_of
    | with_reducible exact g_tree_faults
    | with_reducible exact g_treediff_added
    | with_reducible exact g_treediff_beside
    | with_reducible exact g_treediff_entries
    | with_reducible exact g_treediff_folders
    | with_reducible exact g_treediff_gone
    | with_reducible exact g_treediff_is_alike
    | with_reducible exact g_treediff_joined
    | with_reducible exact g_treediff_kind
    | with_reducible exact g_treediff_order
    | with_reducible exact g_treediff_within
    | fail "no"
  k_with "m" => first
    | with_reducible exact m_108_digest
    | with_reducible exact m_314_sort_key
    | with_reducible exact m_314_octets
    | with_reducible exact m_363_octets
    | with_reducible exact m_525_keep
    | with_reducible exact m_525_write
    | with_reducible exact m_525_write_tree
    | with_reducible exact m_525_row_of
    | with_reducible exact m_525_of_kind
    | with_reducible exact m_525_tree
    | fail "no"
  k_with "sz" => first | (with_reducible assumption) | omega | (simp only [List.length_append, List.length_cons, List.length_nil, List.size_toArray]; omega) | (simp only [List.length_append, List.length_cons, List.length_nil, List.size_toArray] at *; omega) | fail "no"
  k_with "at" => first | (with_reducible exact St.at (by assumption) 0 rfl) | (with_reducible exact St.at (by assumption) 1 rfl) | (with_reducible exact St.at (by assumption) 2 rfl) | (with_reducible exact St.at (by assumption) 3 rfl) | (with_reducible exact St.at (by assumption) 4 rfl) | (with_reducible exact St.at (by assumption) 5 rfl) | (with_reducible exact St.at (by assumption) 6 rfl) | (exact (St.own (by assumption)).keep _ _ (by assumption)) | fail "no"
  k_with "df" => first | (with_reducible exact St.dict (by assumption) 0 rfl (by assumption)) | (with_reducible exact St.dict (by assumption) 1 rfl (by assumption)) | (with_reducible exact St.dict (by assumption) 2 rfl (by assumption)) | (with_reducible exact St.dict (by assumption) 3 rfl (by assumption)) | (with_reducible exact St.dict (by assumption) 4 rfl (by assumption)) | (with_reducible exact St.dict (by assumption) 5 rfl (by assumption)) | (with_reducible exact DF.sub (by assumption) (St.own (by assumption)).keep) | fail "no"
  k_with "fr" => first | exact rfl | assumption | (refine updN (by decide) ?_; first | exact rfl | assumption | (refine updN (by decide) ?_; first | exact rfl | assumption | (refine updN (by decide) ?_; first | exact rfl | assumption | (refine updN (by decide) ?_; first | exact rfl | assumption)))) | fail "no"
  k_with "go1" => first
    | ((with_reducible show wpAny _ _ (eval _ _) _ _ _); first
      | ((with_reducible show wpAny _ _ (eval (Expr.Name _ _) _) _ _ _); first | ((with_reducible refine' nL (by assumption) ?hv ?_); (case hv => walk_at "fr")) | ((with_reducible refine' nG (by assumption) (by assumption) ?hg ?_); (case hg => walk_at "g")) | ((with_reducible refine' nB (by assumption) (by assumption) ?hb ?_); (case hb => walk_at "g")))
      | (with_reducible refine xAttrN ?_)
      | (with_reducible refine xAttr ?_)
      | ((with_reducible show wpAny _ _ (eval (Expr.Constant ..) _) _ _ _); first
        | ((with_reducible refine conBy ?_); intro _ _)
        | ((with_reducible refine conInt ?_); intro _ _)
        | ((with_reducible refine conStr ?_); intro _ _)
        | (with_reducible refine wpAny_Constant_none ?_)
        | (with_reducible refine wpAny_Constant_bool ?_))
      | (with_reducible refine xMethod ?_)
      | (with_reducible refine xCall ?_)
      | (with_reducible refine xCut ?_)
      | (with_reducible refine Subscript_ ?_)
      | (with_reducible refine xCompare ?_)
      | (with_reducible refine wpAny_BinOp ?_)
      | (with_reducible refine Tuple_ ?_)
      | (with_reducible refine List_ ?_)
      | (with_reducible refine wpAny_IfExp ?_)
      | ((with_reducible refine' dNew (by assumption) (by assumption) ?_); intro _ _ _ _ _ _))
    | ((with_reducible show wpAny _ _ (callWith _ _ _ _ _) _ _ _); first
      | (with_reducible refine cBn ?_)
      | (with_reducible refine cB1 ?_)
      | (with_reducible refine cB01 ?_)
      | (with_reducible refine cT ?_)
      | ((with_reducible refine cGn ?hk ?_); (case hk => kernel_rfl!))
      | ((with_reducible refine cG1 ?hk ?_); (case hk => kernel_rfl!))
      | ((with_reducible refine cG01 (by assumption) (by assumption) ?hk ?_); (case hk => kernel_rfl!)))
    | ((with_reducible show wpAny _ _ (spliced _) _ _ _); first
      | (with_reducible refine xSplCons ?_)
      | (with_reducible refine xSplNil ?_))
    | ((with_reducible refine xExecsZ ?_); intro zZ zA zB)
    | (with_reducible refine wpAny_execs_nil ?_)
    | ((with_reducible show wpAny _ _ (exec _ _) _ _ _); first
      | (with_reducible refine xAssign ?_)
      | (with_reducible refine xAssignSub ?_)
      | (with_reducible refine xAssignAttr ?_)
      | (with_reducible refine xExpr ?_)
      | (with_reducible refine xIf ?_)
      | (with_reducible refine wpAny_Return_some ?_)
      | (with_reducible refine xFor ?_)
      | (with_reducible refine xWhile ?_)
      | (with_reducible refine wpAny_Continue ?_)
      | (with_reducible refine wpAny_Break ?_))
    | ((with_reducible show wpAny _ _ (PySem.isTrue _ _ _) _ _ _); first
      | (with_reducible refine xIsCompare ?_)
      | (with_reducible refine isTrue_and_nil ?_)
      | (with_reducible refine isTrue_and ?_)
      | (with_reducible refine isTrue_or_nil ?_)
      | (with_reducible refine isTrue_or ?_)
      | (with_reducible refine isTrue_not ?_)
      | (with_reducible refine isTrue_IfExp ?_)
      | (with_reducible refine xIsPlain ?_))
    | ((with_reducible show wpAny _ _ (compareOp _ _ _) _ _ _); first
      | (with_reducible refine eqB ?_)
      | (with_reducible refine neB ?_)
      | (with_reducible refine eqI ?_)
      | (with_reducible refine neI ?_)
      | (with_reducible refine gtI ?_)
      | (with_reducible refine geI ?_)
      | (with_reducible refine eqS ?_)
      | (with_reducible refine isNoneN ?_)
      | (with_reducible refine isNoneR ?_)
      | (with_reducible refine isNoneB ?_)
      | (with_reducible refine notNoneN ?_)
      | (with_reducible refine notNoneR ?_)
      | (with_reducible refine notNoneB ?_)
      | ((with_reducible refine' dIn ?hd ?_); (case hd => walk_at "df"); intro _)
      | ((with_reducible refine' dNotIn ?hd ?_); (case hd => walk_at "df"); intro _))
    | ((with_reducible show wpAny _ _ (call _ _ _) _ _ _); first
      | ((with_reducible refine ordC ?_); intro _ _)
      | ((with_reducible refine byOfBy ?_); intro _)
      | ((with_reducible refine strI (by omega) ?_); intro _ _)
      | ((with_reducible refine' dLen ?hd ?hz ?_); (case hd => walk_at "df"); (case hz => walk_at "sz"); intro _ _)
      | ((with_reducible refine' lenB ?hz ?_); (case hz => walk_at "sz"); intro _ _))
    | ((with_reducible show wpAny _ _ (getMethod _ _ _) _ _ _); first
      | ((with_reducible refine' aM (by assumption) (by assumption) (by assumption) ?hf ?hv ?_); (case hf => walk_at "m"); (case hv => exact rfl))
      | ((with_reducible refine' lMeth ?hl PySem.F.slot_list_append PySem.F.type_list_append ?_); (case hl => walk_at "at"))
      | ((with_reducible refine' lMeth ?hl PySem.F.slot_list_extend PySem.F.type_list_extend ?_); (case hl => walk_at "at"))
      | ((with_reducible refine' lMeth ?hl PySem.F.slot_list_pop PySem.F.type_list_pop ?_); (case hl => walk_at "at")))
    | ((with_reducible show wpAny _ _ (getAttr _ _ _) _ _ _); first
      | ((with_reducible refine' aF (by assumption) (by assumption) (by assumption) ?hf ?hv ?hh ?_); (case hf => kernel_rfl!); (case hv => exact rfl); (case hh => exact rfl); intro _))
    | ((with_reducible show wpAny _ _ (binaryOp _ _ _) _ _ _); first
      | ((with_reducible refine addI ?_); intro _ _)
      | ((with_reducible refine andI ?_); intro _ _)
      | ((with_reducible refine modI (by decide) ?_); intro _ _)
      | ((with_reducible refine subI ?_); intro _ _)
      | ((with_reducible refine' addBy ?hz ?_); (case hz => walk_at "sz"); intro _ _))
    | (with_reducible refine testsNil ?_)
    | (with_reducible refine wpAny_bindName ?_)
    | (with_reducible refine wpAny_assign_Name ?_)
    | ((with_reducible refine sL (by assumption) ?_); intro _ _ _)
    | ((with_reducible refine' dItem ?hd ?hv ?_); (case hd => walk_at "df"); (case hv => assumption); intro _)
    | (with_reducible refine partN ?_)
    | (with_reducible refine partS ?_)
    | (with_reducible refine wpAny_truthy_bool ?_)
    | ((with_reducible refine' lNew (by assumption) ?hz ?_); (case hz => walk_at "sz"); intro _ _ _ _)
    | ((with_reducible refine' tNew (by assumption) ?hz ?_); (case hz => walk_at "sz"); intro _ _ _ _)
    | (with_reducible refine ifT ?_)
    | (with_reducible refine ifF ?_)
    | ((with_reducible refine zNx zA ?_); clear zA zB; (try clear zZ))
    | ((with_reducible refine zOut zB (by kernel_rfl!) ?_); clear zA zB; (try clear zZ))
    | (with_reducible refine zEnd (by assumption) ?_)
    | (with_reducible refine zRet (by assumption) ?_)
    | (with_reducible refine kin (by assumption) (by assumption) ?_)
    | fail "no"
  k_with "sx" => first | ((try ((with_reducible refine zNx zA ?_); clear zA zB; (try clear zZ))); refine xExecsZ ?_; intro zZ zA zB) | fail "no"
  k_with "go" => repeat' (walk_at "go1")
  k_with "kr" => first | kernel_rfl! | (refine BindsTo.of_eq ?_; kernel_rfl!) | fail "no"
  trivial
-- F1
section
section
variable {prog : Program} {w : World} {mg mb : Str → Option Value} {p : Program} {loose : List Str} {A : Around} {E : Value → Shared → Prop}
  {g h : Heap} {mu : List (Addr × Obj)} {gs : Array GenState} {dr : Drawn} {tk : Nat} {os : OsState}
noncomputable def joined (folder name : BY) : BY := if folder = [] then name else folder ++ [47] ++ name

theorem joined_spec {fo na : BY} {t u : Tok} {Q : Value → Shared → Prop} {n : Nat} (C : Cx w mg mb p loose g) (k : Sub g h) (rm : Rm A (n + 1))
    (hs : fo.length + na.length ≤ 1000)
    (ret : ∀ h' tk' t', Step [] g h g h' → Own g h' [] → Q (.bytes (joined fo na).toArray t') ⟨h', gs, dr, tk', os⟩) :
    wpAny (model prog w) A (call (.ref 126) [.bytes fo.toArray t, .bytes na.toArray u]) Q E ⟨h, gs, dr, tk, os⟩ := by
  refine wpAny_call ?_
  refine enter (f := 126) (fd := fdOf w 126) (body := bodyOf w 126) (binds := [("folder", .bytes fo.toArray t), ("name", .bytes na.toArray u)]) C (Own.nil k) rm (oc := .type "function") (od := none) (osl := #[]) ?a ?b ?c ?d ?e ?walk ?f ?g ?i ?j
  case walk =>
    intro E h₁ tk₁ rm st Z0 z0
    walk_at "sx"
    walk_at "go"
    have q : fo.length ≤ 1000000 := by omega
    with_reducible refine truBy q fun tk₂ => ?_
    by_cases e : fo = []
    · rw [joined, if_pos e] at ret
      first | ((with_reducible refine ifN ?hc ?_); (case hc => exact (by simp [e]))) | rw [if_neg (by simp [e])]
      walk_at "go"
      exact ret _ _ _ st.step st.own
    · rw [joined, if_neg e] at ret
      first | ((with_reducible refine ifP ?hc ?_); (case hc => exact (by simpa using e))) | rw [if_pos (by simpa using e)]
      walk_at "go"
      exact ret _ _ _ st.step st.own
  all_goals walk_at "kr"

theorem kind_spec {t : Tok} {Q : Value → Shared → Prop} {n : Nat} (C : Cx w mg mb p loose g) (k : Sub g h) (rm : Rm A (n + 1))
    (ret : ∀ h' tk' t', Step [] g h g h' → Own g h' [] → Q (.str "file" t') ⟨h', gs, dr, tk', os⟩) :
    wpAny (model prog w) A (call (.ref 119) [.int 33188 t]) Q E ⟨h, gs, dr, tk, os⟩ := by
  refine wpAny_call ?_
  refine enter (f := 119) (fd := fdOf w 119) (body := bodyOf w 119) (binds := [("mode", .int 33188 t)]) C (Own.nil k) rm (oc := .type "function") (od := none) (osl := #[]) ?a ?b ?c ?d ?e ?walk ?f ?g ?i ?j
  case walk =>
    intro E h₁ tk₁ rm st Z0 z0
    walk_at "sx"
    walk_at "go"
    first | ((with_reducible refine ifN ?hc ?_); (case hc => exact (by decide))) | rw [if_neg (by decide)]
    walk_at "go"
    first | ((with_reducible refine ifN ?hc ?_); (case hc => exact (by decide))) | rw [if_neg (by decide)]
    walk_at "go"
    first | ((with_reducible refine ifN ?hc ?_); (case hc => exact (by decide))) | rw [if_neg (by decide)]
    walk_at "go"
    exact ret _ _ _ st.step st.own
  all_goals walk_at "kr"
end
end
-- F2
section
section
variable {prog : Program} {w : World} {mg mb : Str → Option Value} {p : Program} {loose : List Str} {A : Around} {E : Value → Shared → Prop}
  {g h : Heap} {mu : List (Addr × Obj)} {gs : Array GenState} {dr : Drawn} {tk : Nat} {os : OsState}
theorem intsOf_bytes {l : List Nat} (hl : ∀ c ∈ l, c < 128) : byteArr (l.map fun c : Nat => (c : Int)) = (l.map Nat.toUInt8).toArray := by
  unfold byteArr
  simp
theorem ints_get : ∀ {vs : List Value} {ns : List Int} {i : Nat} {v : Value}, IntsAre vs ns → vs[i]? = some v → ∃ n t, ns[i]? = some n ∧ v = .int n t
  | _, _, _, _, .nil, e => by simp at e
  | _, _, 0, _, .cons n t r, e => by simp at e; exact ⟨n, t, rfl, e.symm⟩
  | _ :: vs, _ :: ns, i + 1, v, .cons n t r, e => by
    have := ints_get (i := i) (v := v) r (by simpa using e)
    simpa using this
theorem octets_of_spec {x : Str} {t : Tok} {Q : Value → Shared → Prop} {n : Nat} (C : Cx w mg mb p loose g) (k : Sub g h) (rm : Rm A (n + 1)) (ha : x.cps.all (· < 128) = true) (hz : x.cps.size ≤ 1000)
    (ret : ∀ h' tk' t', Step [] g h g h' → Own g h' [] → Q (.bytes (x.cps.toList.map Nat.toUInt8).toArray t') ⟨h', gs, dr, tk', os⟩) :
    wpAny (model prog w) A (call (.ref 71) [.str x t]) Q E ⟨h, gs, dr, tk, os⟩ := by
  have hlt : ∀ c ∈ x.cps.toList, c < 128 := fun c hc => by
    have := Array.all_eq_true_iff_forall_mem.mp ha c (by simpa using hc)
    simpa using this
  refine wpAny_call ?_
  refine enter (f := 71) (fd := fdOf w 71) (body := bodyOf w 71) (binds := [("text", .str x t)]) C (Own.nil k) rm (oc := .type "function") (od := none) (osl := #[]) ?a ?b ?c ?d ?e ?walk ?f ?g ?i ?j
  case walk =>
    intro E h₁ tk₁ rm st Z0 z0
    walk_at "sx"
    refine exComp (cl := []) ?sw ?clos ?kind ?names ?fs ?main
    case main =>
      walk_at "go"
      with_reducible refine compI (cl := []) (some _) (Iter.str rm.hh ha) ?hn ?hcell ?hkind ?hL ?huse st (fun i g' ys mu' => g' = g ∧ mu' = [] ∧ IntsAre ys ((x.cps.toList.take i).map fun c : Nat => (c : Int))) ⟨rfl, rfl, by rw [List.take_zero, List.map_nil]; exact .nil⟩ ?turn ?done ?ht
      case turn =>
        intro h₀ S₀ C' D I i v g₁ h₂ m₁ mu₁ tk₂ oI₀ oI ys na E hi hp zj sg hl fr st₀ hS st₂ Z Zn zn zs
        obtain ⟨rfl, rfl, hys⟩ := zj
        obtain ⟨c, u, hc, rfl⟩ := hp
        walk_at "go"
        refine zn _ g₁ _ _ _ _ Sub.rfl ‹_› ⟨rfl, rfl, ?_⟩
        have : x.cps.toList.take (i + 1) = x.cps.toList.take i ++ [c] := by
          rw [List.take_succ_eq_append_getElem (by simpa using hi)]
          congr 1
          simp [Array.getElem?_eq_some_iff] at hc
          simp [hc.2]
        rw [this, List.map_append]
        exact hys.append (.cons _ _ .nil)
      case done =>
        rintro D g₁ h₂ mu₁ tk₂ ys na ⟨rfl, rfl, hys⟩ sg hl hD st₂
        rw [List.take_of_length_le (by simp)] at hys
        have hfin : ∀ n ∈ x.cps.toList.map (fun c : Nat => (c : Int)), 0 ≤ n ∧ n < 128 := by
          intro n hn
          obtain ⟨c, hc, rfl⟩ := List.mem_map.mp hn
          have := hlt c hc
          omega
        obtain ⟨g', sg', hg', hb', st₃⟩ := st₂.freeze hD
        have C := C.sub sg'
        walk_at "go"
        refine forI (Iter.list rm.hh (isl hg')) st₃ (fun i g₁ m₁ mu₁ => g₁ = g' ∧ mu₁ = [] ∧ m₁ "numbers" = some (.ref D)) ⟨rfl, rfl, rfl⟩ ?turn2 ?done2 ?ht2
        case turn2 =>
          intro i v I g₁ h₁ m₁ mu₁ tk₁ oI E hi hp zj sg st Z zn zb zr
          obtain ⟨rfl, rfl, hm⟩ := zj
          obtain ⟨c, t, hc, rfl⟩ : ∃ (c : Int) (t : Tok), c < 128 ∧ v = .int c t := by
            have hp : ys[i]? = some v := by simpa using hp
            obtain ⟨c, t, e, rfl⟩ := ints_get hys hp
            exact ⟨c, t, (hfin c (List.mem_of_getElem? e)).2, rfl⟩
          walk_at "go"
          first | ((with_reducible refine ifN ?hc ?_); (case hc => exact (by simp; omega))) | rw [if_neg (by simp; omega)]
          walk_at "go"
          exact zn _ g₁ _ _ _ _ rfl Sub.rfl ‹_› ⟨rfl, rfl, by walk_at "fr"⟩
        case done2 =>
          rintro g₁ h₁ m₁ mu₁ tk₁ ⟨rfl, rfl, hm⟩ sg st
          walk_at "go"
          refine byOfInts st rm.hh (by walk_at "at") hys (fun n hn => ⟨(hfin n hn).1, by have := (hfin n hn).2; omega⟩) (by rw [hys.length]; simp; omega) fun h' tk' t' st => ?_
          rw [intsOf_bytes hlt]
          walk_at "go"
          exact ret _ _ _ st.step.drop (st.own.drop st.step.sub)
        case ht2 => intro I v; rfl
      case ht => intro I v; rfl
      case hn => unfold sizeLine; omega
      case hcell => kernel_rfl!
      case hkind => kernel_rfl!
      case hL => kernel_rfl!
      case huse => kernel_rfl!
    case names => decide
    case fs => intro x; kernel_rfl!
    all_goals kernel_rfl!
  all_goals walk_at "kr"
end
end
-- F3
section
section
variable {prog : Program} {w : World} {mg mb : Str → Option Value} {p : Program} {loose : List Str} {A : Around} {E : Value → Shared → Prop}
  {g h : Heap} {mu : List (Addr × Obj)} {gs : Array GenState} {dr : Drawn} {tk : Nat} {os : OsState}
theorem big_endian_spec {k : Nat} {t u : Tok} {Q : Value → Shared → Prop} {n : Nat} (C : Cx w mg mb p loose g) (kp : Sub g h) (rm : Rm A (n + 1))
    (ret : ∀ h' tk' t', Step [] g h g h' → Own g h' [] → Q (.bytes (be4 k).toArray t') ⟨h', gs, dr, tk', os⟩) :
    wpAny (model prog w) A (call (.ref 83) [.int (k : Int) t, .int 4 u]) Q E ⟨h, gs, dr, tk, os⟩ := by
  refine wpAny_call ?_
  refine enterCells (f := 83) (fd := fdOf w 83) (body := bodyOf w 83) (binds := [("number", .int (k : Int) t), ("many", .int 4 u)]) C (Own.nil kp) rm (oc := .type "function") (od := none) (osl := #[]) ?a ?b ?c ?d ?e ?e2 ?e3 ?walk ?f ?g ?i
  case walk =>
    intro E h₁ tk₁ obj rm ho st Z0 z0
    have o1 : (obj (h.objs.size + 1)).data = .cell (some (.int (k : Int) t)) := (ho "number" (h.objs.size + 1) (by kernel_rfl!)).trans (by kernel_rfl!)
    have o2 : (obj (h.objs.size + 2)).data = .cell (some (.int 4 u)) := (ho "many" (h.objs.size + 2) (by kernel_rfl!)).trans (by kernel_rfl!)
    have e : cellObjs obj (cellsFrom (h.objs.size + 1) (fdOf w 83).scope.names []) ++ [] = [(h.objs.size + 2, obj (h.objs.size + 2)), (h.objs.size + 1, obj (h.objs.size + 1))] := by kernel_rfl!
    rw [e] at st
    clear ho
    walk_at "sx"
    walk_at "go"
    refine evComp (cl := [("number", h.objs.size + 1), ("many", h.objs.size + 2)]) ?clos ?kind ?names ?fs ?main
    case main =>
      walk_at "go"
      refine nC (st.at 0 rfl) o2 ?_
      walk_at "go"
      refine rNew st fun r g' h' tk' t' u' v' sg hr st => ?_
      have C := C.sub sg
      refine compI (cl := [("number", h.objs.size + 1), ("many", h.objs.size + 2)]) none (Iter.range (n := 4) rm.hh (by decide) (by decide +kernel) hr) ?hn ?hcell ?hkind ?hL ?huse st (fun i g₁ ys mu' => g₁ = g' ∧ mu' = [(h.objs.size + 2, obj (h.objs.size + 2)), (h.objs.size + 1, obj (h.objs.size + 1))] ∧ IntsAre ys ((List.range i).map fun i : Nat => ((k / 2 ^ (8 * (3 - i)) % 256 : Nat) : Int))) ⟨rfl, rfl, .nil⟩ ?turn ?done ?ht
      case turn =>
        intro h₀ S₀ C' D I i v g₁ h₂ m₁ mu₁ tk₂ oI₀ oI ys na E hi hp zj sg hl fr st₀ hS st₂ Z Zn zn zs
        obtain ⟨rfl, rfl, hys⟩ := zj
        obtain ⟨u, rfl⟩ := hp
        walk_at "go"
        refine nC ((St.at (by assumption) 3 rfl)) o1 ?_
        walk_at "go"
        refine nC ((St.at (by assumption) 2 rfl)) o2 ?_
        walk_at "go"
        refine mulI (by omega) fun _ _ => ?_
        refine shrI (k := 8 * (3 - i)) (by omega) fun _ _ => ?_
        walk_at "go"
        refine zn _ g₁ _ _ _ _ Sub.rfl ‹_› ⟨rfl, rfl, ?_⟩
        rw [List.range_succ, List.map_append]
        refine hys.append ?_
        have ev : ((k : Int).fdiv (2 ^ (8 * (3 - i)))) % 256 = ((k / 2 ^ (8 * (3 - i)) % 256 : Nat) : Int) := by
          have e2 : (2 : Int) ^ (8 * (3 - i)) = ((2 ^ (8 * (3 - i)) : Nat) : Int) := by rw [Int.natCast_pow]; rfl
          rw [e2, Int.fdiv_eq_ediv_of_nonneg _ (Int.natCast_nonneg _)]
          rw [Int.natCast_emod, Int.natCast_ediv]
          rfl
        rw [ev]
        exact .cons _ _ .nil
      case done =>
        rintro D g₁ h₂ mu₁ tk₂ ys na ⟨rfl, rfl, hys⟩ sg hl hD st₂
        walk_at "go"
        refine byOfInts st₂ rm.hh (by walk_at "at") hys ?_ (by rw [hys.length]; simp) fun h' tk' t' st => ?_
        · intro n hn
          obtain ⟨c, hc, rfl⟩ := List.mem_map.mp hn
          omega
        · have eb : byteArr ((List.range 4).map fun i : Nat => ((k / 2 ^ (8 * (3 - i)) % 256 : Nat) : Int)) = (be4 k).toArray := by
            unfold byteArr be4
            rw [List.map_map]
            rfl
          rw [eb]
          walk_at "go"
          exact ret _ _ _ st.step.drop ((st.sub (List.nil_sublist _)).own.drop st.step.sub)
      case ht => intro I v; rfl
      case hn => unfold sizeLine; omega
      all_goals kernel_rfl!
    case names => decide
    case fs => intro x; kernel_rfl!
    all_goals kernel_rfl!
  all_goals walk_at "kr"
end
end
-- F4
section
section
variable {prog : Program} {w : World} {mg mb : Str → Option Value} {p : Program} {loose : List Str} {A : Around} {E : Value → Shared → Prop}
  {g h : Heap} {mu : List (Addr × Obj)} {gs : Array GenState} {dr : Drawn} {tk : Nat} {os : OsState}
theorem hasher_spec {t : Tok} {Q : Value → Shared → Prop} {n : Nat} (C : Cx w mg mb p loose g) (k : Sub g h) (rm : Rm A (n + 2))
    (ret : ∀ H kn o g' h' tk', Step [] g h g' h' → Own g' h' [(kn, o)] → DM prog w kn o [] → InstF g' H 108 [("size", .int 4 t), ("known", .ref kn)] → h.objs.size ≤ kn → Q (.ref H) ⟨h', gs, dr, tk', os⟩) :
    wpAny (model prog w) A (call (.ref 108) [.int 4 t]) Q E ⟨h, gs, dr, tk, os⟩ := by
  refine wpAny_call ?_
  refine mk (fI := 98) (Own.nil k) C (by kernel_rfl!) fun x dx h' hx hdx hgx sub sz ow => ?_
  refine enter (f := 98) (fd := fdOf w 98) (body := bodyOf w 98) (binds := [("self", .ref x), ("size", .int 4 t)]) C ow rm.under (oc := .type "function") (od := none) (osl := #[]) ?a ?b ?c ?d ?e ?walk ?f ?g ?i ?j
  case walk =>
    intro E h₁ tk₁ rm st Z0 z0
    walk_at "sx"
    walk_at "go"
    refine setF st C 1 rfl 0 rfl .nil rfl (by kernel_rfl!) (Nat.le_of_ble_eq_true rfl) fun h' o' tk' F st => ?_
    walk_at "sx"
    refine xAssignAttr ?_
    refine dNew st C fun kn h2 o2 D hkn st => ?_
    walk_at "go"
    refine setF st C 2 rfl 1 rfl F rfl (by kernel_rfl!) (Nat.le_of_ble_eq_true rfl) fun h' o' tk' F st => ?_
    walk_at "go"
    have st := st.perm (mu' := [(x, instObj 108 dx), (dx, o'), (kn, o2)]) (.trans (.swap ..) (.cons _ (.swap ..)))
    obtain ⟨g', sg, I, ow, sp⟩ := mkEnd hx hdx sub sz st F
    exact ⟨rfl, ret x kn o2 g' _ _ sp ow D I (Nat.le_trans sz hkn)⟩
  case d =>
    refine' BindsTo.of_defaults (T := 91) (o := tup #[.int 4 307] 0) (items := #[.int 4 307]) (n := 0) ?h1 ?h2 rfl ?h3 ?h4
    case h1 => kernel_rfl!
    case h2 => exact C.X.keeps ow.keep _ _ (by kernel_rfl!)
    case h3 => rfl
    case h4 => kernel_rfl!
  all_goals walk_at "kr"

theorem digest_spec {H kn : Addr} {o : Obj} {kvs : List (BY × Value)} {cs : List BY} {c : BY} {t0 u : Tok} {Q : Value → Shared → Prop} {n : Nat} (C : Cx w mg mb p loose g) (rm : Rm A (n + 2)) (ow : Own g h [(kn, o)])
    (D : DM prog w kn o kvs) (I : InstF g H 108 [("size", .int 4 t0), ("known", .ref kn)]) (K : IsKnown kvs cs) (nd : cs.Nodup) (hz : cs.length ≤ 60000)
    (ret : ∀ o' kvs' h' tk' t', Step [kn] g h g h' → Own g h' [(kn, o')] → DM prog w kn o' kvs' → IsKnown kvs' (pushC cs c) → Q (.bytes (be4 ((pushC cs c).idxOf c + 1)).toArray t') ⟨h', gs, dr, tk', os⟩) :
    wpAny (model prog w) A (call (.ref 105) [.ref H, .bytes c.toArray u]) Q E ⟨h, gs, dr, tk, os⟩ := by
  refine wpAny_call ?_
  refine enter (f := 105) (fd := fdOf w 105) (body := bodyOf w 105) (binds := [("self", .ref H), ("octets", .bytes c.toArray u)]) C ow rm (oc := .type "function") (od := none) (osl := #[]) ?a ?b ?c ?d ?e ?walk ?f ?g ?i ?j
  case walk =>
    intro E h₁ tk₁ rm st Z0 z0
    have kz : kvs.length < 1000000 := by rw [K.1]; omega
    have kz' : kvs.length ≤ 1000000 := by omega
    walk_at "sx"
    walk_at "go"
    by_cases hc : c ∈ cs
    · have hi : cs.idxOf c < cs.length := List.idxOf_lt_length_iff.mpr hc
      obtain ⟨t, hv⟩ := K.2 (cs.idxOf c) c (by rw [List.getElem?_eq_getElem hi, List.getElem_idxOf])
      have hv : valueAt kvs c = some (.int ((cs.idxOf c + 1 : Nat) : Int) t) := valueAt_some (by rw [K.keys]; exact nd) hv
      have hp : pushC cs c = cs := by rw [pushC, if_pos hc]
      rw [hp] at ret
      rw [hv]
      first | ((with_reducible refine ifN ?hc ?_); (case hc => exact (by simp))) | rw [if_neg (by simp)]
      walk_at "go"
      obtain st : St _ _ _ _ _ _ _ _ := by assumption
      refine big_endian_spec C st.own.keep (by assumption) fun h' tk' t' sp ow => ?_
      have st := st.call (mu₁ := []) sp ow rfl
      walk_at "go"
      exact ret o kvs _ _ _ st.step st.own D K
    · have hn : valueAt kvs c = none := valueAt_none (by rw [K.keys]; exact hc)
      rw [hn]
      first | ((with_reducible refine ifP ?hc ?_); (case hc => exact (by simp))) | rw [if_pos (by simp)]
      walk_at "go"
      obtain st : St _ _ _ _ _ _ _ _ := by assumption
      refine dSet st 0 rfl D kz' fun h' o' tk' D st => ?_
      have K2 := K.push' (i := (kvs.length : Int) + 1) hc rfl
      have hv := fun v => valueAt_stored (v := v) (by rw [K.keys]; exact nd) (by rw [K.keys]; exact hc)
      rw [idx_push hc] at ret
      walk_at "go"
      refine dItem (st.dict 0 rfl D) (hv _) fun tk' => ?_
      walk_at "go"
      rw [show ((kvs.length : Int) + 1) = ((cs.length + 1 : Nat) : Int) by rw [K.1]; rfl]
      refine big_endian_spec C st.own.keep (by assumption) fun h' tk' t' sp ow => ?_
      have st := st.call (mu₁ := []) sp ow rfl
      walk_at "go"
      exact ret _ _ _ _ _ st.step st.own D (K2 _)
  all_goals walk_at "kr"
end
end
-- F5
section
section
variable {prog : Program} {w : World} {mg mb : Str → Option Value} {p : Program} {loose : List Str} {A : Around} {E : Value → Shared → Prop}
  {g h : Heap} {mu : List (Addr × Obj)} {gs : Array GenState} {dr : Drawn} {tk : Nat} {os : OsState}
theorem object_octets_spec {ki co : BY} {t u : Tok} {Q : Value → Shared → Prop} {n : Nat} (C : Cx w mg mb p loose g) (k : Sub g h) (rm : Rm A (n + 2)) (hk : ki.length ≤ 10) (hc : co.length ≤ 900)
    (ret : ∀ h' tk' t', Step [] g h g h' → Own g h' [] → Q (.bytes (objB ki co).toArray t') ⟨h', gs, dr, tk', os⟩) :
    wpAny (model prog w) A (call (.ref 388) [.bytes ki.toArray t, .bytes co.toArray u]) Q E ⟨h, gs, dr, tk, os⟩ := by
  refine wpAny_call ?_
  refine enter (f := 388) (fd := fdOf w 388) (body := bodyOf w 388) (binds := [("kind", .bytes ki.toArray t), ("content", .bytes co.toArray u)]) C (Own.nil k) rm (oc := .type "function") (od := none) (osl := #[]) ?a ?b ?c ?d ?e ?walk ?f ?g ?i ?j
  case walk =>
    intro E h₁ tk₁ rm st Z0 z0
    have dz : (digB co.length).length ≤ 1000 := by
      have := digB_size (n := co.length)
      rw [digB, List.length_map, Array.length_toList]
      omega
    walk_at "sx"
    walk_at "go"
    refine octets_of_spec (x := Str.ofString (toString (co.length : Int))) C st.own.keep (by assumption) digB_ascii (by have := digB_size (n := co.length); omega) fun h' tk' t' sp ow => ?_
    have st := st.call (mu₁ := []) sp ow rfl
    have e : (List.map Nat.toUInt8 (Str.ofString (toString (co.length : Int))).cps.toList) = digB co.length := rfl
    rw [e]
    walk_at "go"
    exact ret _ _ _ st.step st.own
  all_goals walk_at "kr"
end
end
-- F6
section
section
variable {prog : Program} {w : World} {mg mb : Str → Option Value} {p : Program} {loose : List Str} {A : Around} {E : Value → Shared → Prop}
  {g h : Heap} {mu : List (Addr × Obj)} {gs : Array GenState} {dr : Drawn} {tk : Nat} {os : OsState}
theorem keep_spec {S kn kd : Addr} {o1 o2 : Obj} {items : List Thing} {th : Thing} {v : Value} {t u : Tok} {Q : Value → Shared → Prop} {n : Nat} (C : Cx w mg mb p loose g) (rm : Rm A (n + 3)) (ow : Own g h [(kn, o1), (kd, o2)])
    (I : StoreAt g S kn kd) (F : StF prog w g kn kd o1 o2 items) (hz : items.length ≤ 50000) (hc : th.octs.length ≤ 900)
    (hkp : ∀ g' x n t, Sub g g' → g'.get? x = some (tup #[.bytes th.kind.toArray t, v] n) → IsKp g' (.ref x) th)
    (ret : ∀ o1' o2' g' h' tk' t', Step [kn, kd] g h g' h' → Own g' h' [(kn, o1'), (kd, o2')] → StF prog w g' kn kd o1' o2' (pushT items th) → Q (.bytes (idOf (pushT items th) th).toArray t') ⟨h', gs, dr, tk', os⟩) :
    wpAny (model prog w) A (call (.ref 409) [.ref S, .bytes th.kind.toArray t, .bytes th.octs.toArray u, v]) Q E ⟨h, gs, dr, tk, os⟩ := by
  have hk : th.kind.length ≤ 10 := by cases th <;> exact Nat.le_of_ble_eq_true rfl
  obtain ⟨H, t0, I1, I2⟩ := I
  obtain ⟨⟨kvs1, D1, K1⟩, ⟨kvs2, D2, K2⟩, nd⟩ := F
  refine wpAny_call ?_
  refine enter (f := 409) (fd := fdOf w 409) (body := bodyOf w 409) (binds := [("self", .ref S), ("kind", .bytes th.kind.toArray t), ("content", .bytes th.octs.toArray u), ("thing", v)]) C ow rm (oc := .type "function") (od := none) (osl := #[]) ?a ?b ?c ?d ?e ?walk ?f ?g ?i ?j
  case walk =>
    intro E h₁ tk₁ rm st Z0 z0
    walk_at "sx"
    walk_at "go"
    refine object_octets_spec C st.own.keep (by assumption) hk hc fun h' tk' t' sp ow => ?_
    have st := st.call (mu₁ := []) sp ow rfl
    walk_at "go"
    refine digest_spec (c := th.cont) C (by assumption) (st.sel (mu₁ := [(kn, o1)])) D1 I2 K1 nd (by simp; omega) fun o1' kvs1' h' tk' t' sp ow D1 K1 => ?_
    have st := st.call (mu₁ := [(kn, o1)]) sp ow rfl
    have hid : be4 (List.idxOf th.cont (pushC (items.map Thing.cont) th.cont) + 1) = idOf (pushT items th) th := by rw [idOf, pushT_cont]
    rw [hid]
    rw [← pushT_cont] at K1
    walk_at "go"
    by_cases hin : th.cont ∈ items.map Thing.cont
    · have hp : pushT items th = items := by rw [pushT, if_pos hin]
      have hlt : (items.map Thing.cont).idxOf th.cont < items.length := by
        have := List.idxOf_lt_length_iff.mpr hin
        simpa using this
      obtain ⟨v', hv', _⟩ := K2.get (by omega) (List.getElem?_eq_getElem hlt)
      rw [show valueAt kvs2 (idOf (pushT items th) th) = some v' by rw [hp]; exact hv']
      first | ((with_reducible refine ifN ?hc ?_); (case hc => exact (by simp))) | rw [if_neg (by simp)]
      walk_at "go"
      obtain st : St _ _ _ _ _ _ _ _ := by assumption
      rw [hp] at K1
      rw [hp] at ret
      rw [hp]
      walk_at "go"
      exact ret o1' o2 _ _ _ _ st.step st.own ⟨⟨_, D1, K1⟩, ⟨_, D2, K2⟩, nd⟩
    · have hp : pushT items th = items ++ [th] := by rw [pushT, if_neg hin]
      have hix : idOf (pushT items th) th = be4 (items.length + 1) := by rw [← hid, idx_push hin]; simp
      have hmiss := K2.miss (by omega) (Nat.le_refl _) (by omega)
      rw [hix, valueAt_none hmiss, if_pos (by simp)]
      walk_at "go"
      obtain st : St _ _ _ _ _ _ _ _ := by assumption
      rename_i hx st0 _
      refine st.freezeC hx fun g' sg hg st => ?_
      have D2 := D2
      refine dSet st 1 rfl D2 (by rw [K2.1]; omega) fun h' o' tk' D2 st => ?_
      have K2' := (K2.sub (st.step.sub)).push (by omega) (hkp g' _ _ _ st.step.sub hg)
      walk_at "go"
      obtain st : St _ _ _ _ _ _ _ _ := by assumption
      walk_at "go"
      refine ret _ _ _ _ _ _ st.step st.own ⟨⟨_, D1, ?_⟩, ⟨_, D2, ?_⟩, ?_⟩
      · rw [hp] at K1 ⊢; exact K1
      · rw [hp]; rw [hp] at hix; rw [hix]; exact K2'
      · rw [pushT_cont]; exact push_nodup nd
  all_goals walk_at "kr"
end
end
-- F01
section
section
variable {M : Model} {A : Around} {E : Value → Shared → Prop} {s : Shared} {env : Env}
theorem assignEach_plain {e : Expr} {es : List Expr} (h : plainArg e = true) : (assignEach (e :: es) env).map (·.2) = assign e env :: (assignEach es env).map (·.2) := by
  cases e <;> first | (cases h; done) | kernel_rfl!
theorem aOrd {e : Expr} {es : List Expr} {x : Value} {xs : List Value} {Q : Unit → Shared → Prop} (h : wpAny M A (assign e env x) (fun _ s₁ => wpAny M A (assignInOrder ((assignEach es env).map (·.2)) xs) Q E s₁) E s)
    (he : plainArg e = true := by kernel_rfl) : wpAny M A (assignInOrder ((assignEach (e :: es) env).map (·.2)) (x :: xs)) Q E s := by
  rw [assignEach_plain he]; exact assignInOrder_cons h
theorem aOrd0 {xs : List Value} {Q : Unit → Shared → Prop} (h : Q () s) (he : (assignEach [] env).map (·.2) = [] := by kernel_rfl) : wpAny M A (assignInOrder ((assignEach [] env).map (·.2)) xs) Q E s := by
  rw [he]; exact assignInOrder_nil h
end
section
variable {gE hE g h g' h' : Heap} {S : List Addr} {L : Addr} {m : Str → Option Value} {mu₁ mu₁' mu₂ new : List (Addr × Obj)}
/-- behind a call that turned the first of them and made new ones -/
theorem St.callN (st : St gE hE S g L m (mu₁ ++ mu₂) h) (sp : Step (mu₁.map (·.1)) g h g' h') (ow : Own g' h' (mu₁' ++ new)) (ha : mu₁'.map (·.1) = mu₁.map (·.1)) (hn : ∀ p ∈ new, h.objs.size ≤ p.1) : St gE hE S g' L m (new ++ (mu₁' ++ mu₂)) h' := by
  have ow1 : Own g' h' mu₁' := ⟨ow.keep, fun p hp => ow.mem p (List.mem_append_left _ hp), ow.nd.sublist ((List.sublist_append_left _ _).map _)⟩
  have st' := st.call sp ow1 ha
  have ge : hE.objs.size ≤ h.objs.size := st.step.size
  have nd := ow.nd
  rw [List.map_append, List.nodup_append] at nd
  refine ⟨⟨ow.keep, fun p hp => ?_, ?_⟩, st'.step, st'.ns, st'.gl, st'.lo, fun p hp => ?_⟩
  · rcases List.mem_append.mp hp with hp | hp
    · exact ow.mem p (List.mem_append_right _ hp)
    · exact st'.own.mem p hp
  · rw [List.map_append, List.nodup_append]
    refine ⟨nd.2.1, st'.own.nd, fun a ha' b hb e => ?_⟩
    subst e
    rw [List.map_append] at hb
    rcases List.mem_append.mp hb with hb | hb
    · exact nd.2.2 _ hb _ ha' rfl
    · obtain ⟨p, hp, rfl⟩ := List.mem_map.mp ha'
      obtain ⟨q, hq, e⟩ := List.mem_map.mp hb
      have := Heap.lt_size (st.own.mem q (List.mem_append_right _ hq)).1
      rw [e] at this
      exact absurd this (Nat.not_lt.mpr (hn p hp))
  · rcases List.mem_append.mp hp with hp | hp
    · exact ⟨fun e => absurd st.ns.lt (by rw [← e]; exact Nat.not_lt.mpr (hn p hp)), .inr (Nat.le_trans ge (hn p hp))⟩
    · exact st'.ml p hp
end
end
theorem walksTwo : True := by
  k_with_none
  k_with "g" => first
    | with_reducible exact g_ADDED
    | with_reducible exact g_BLOB
    | with_reducible exact g_CountingHasher
    | with_reducible exact g_DIR
    | with_reducible exact g_Entry
    | with_reducible exact g_FILE
    | with_reducible exact g_FOLDER
    | with_reducible exact g_GONE
    | with_reducible exact g_LINK
    | with_reducible exact g_MODULE
    | with_reducible exact g_MemoryStore
    | with_reducible exact g_OBJECT_MODES
    | with_reducible exact g_OTHER
    | with_reducible exact g_OTHER_KIND
    | with_reducible exact g_PLAIN
    | with_reducible exact g_PathChange
    | with_reducible exact g_SUB
    | with_reducible exact g_TREE
    | with_reducible exact g_Tree
    | with_reducible exact g__law_deck
    | with_reducible exact g__law_draw
    | with_reducible exact g__law_row
    | with_reducible exact g__law_touches
    | with_reducible exact g__law_tree
    | with_reducible exact b_bytearray
    | with_reducible exact b_bytes
    | with_reducible exact b_int
    | with_reducible exact b_len
    | with_reducible exact b_ord
    | with_reducible exact b_range
    | with_reducible exact b_sorted
    | with_reducible exact b_str
    | with_reducible exact g_big_endian
    | with_reducible exact g_check_tree
    | with_reducible exact g_diff_trees
    | with_reducible exact g_object_are_all
    | with_reducible exact g_object_by_eights
    | with_reducible exact g_object_has_sign
    | with_reducible exact g_object_name_fault
    | with_reducible exact g_object_octets
    | with_reducible exact g_octets_of
    | with_reducible exact g_tree_faults
    | with_reducible exact g_treediff_added
    | with_reducible exact g_treediff_beside
    | with_reducible exact g_treediff_entries
    | with_reducible exact g_treediff_folders
    | with_reducible exact g_treediff_gone
    | with_reducible exact g_treediff_is_alike
    | with_reducible exact g_treediff_joined
    | with_reducible exact g_treediff_kind
    | with_reducible exact g_treediff_order
    | with_reducible exact g_treediff_within
    | fail "no"
  k_with "m" => first
    | with_reducible exact m_108_digest
    | with_reducible exact m_314_sort_key
    | with_reducible exact m_314_octets
    | with_reducible exact m_363_octets
    | with_reducible exact m_525_keep
    | with_reducible exact m_525_write
    | with_reducible exact m_525_write_tree
    | with_reducible exact m_525_row_of
    | with_reducible exact m_525_of_kind
    | with_reducible exact m_525_tree
    | fail "no"
  k_with "sz" => first | (with_reducible assumption) | omega | (simp only [List.length_append, List.length_cons, List.length_nil, List.size_toArray]; omega) | (simp only [List.length_append, List.length_cons, List.length_nil, List.size_toArray] at *; omega) | fail "no"
  k_with "at" => first | (with_reducible exact St.at (by assumption) 0 rfl) | (with_reducible exact St.at (by assumption) 1 rfl) | (with_reducible exact St.at (by assumption) 2 rfl) | (with_reducible exact St.at (by assumption) 3 rfl) | (with_reducible exact St.at (by assumption) 4 rfl) | (with_reducible exact St.at (by assumption) 5 rfl) | (with_reducible exact St.at (by assumption) 6 rfl) | (exact (St.own (by assumption)).keep _ _ (by assumption)) | fail "no"
  k_with "df" => first | (with_reducible exact St.dict (by assumption) 0 rfl (by assumption)) | (with_reducible exact St.dict (by assumption) 1 rfl (by assumption)) | (with_reducible exact St.dict (by assumption) 2 rfl (by assumption)) | (with_reducible exact St.dict (by assumption) 3 rfl (by assumption)) | (with_reducible exact St.dict (by assumption) 4 rfl (by assumption)) | (with_reducible exact St.dict (by assumption) 5 rfl (by assumption)) | (with_reducible exact DF.sub (by assumption) (St.own (by assumption)).keep) | fail "no"
  k_with "fr" => first | exact rfl | assumption | (refine updN (by decide) ?_; first | exact rfl | assumption | (refine updN (by decide) ?_; first | exact rfl | assumption | (refine updN (by decide) ?_; first | exact rfl | assumption | (refine updN (by decide) ?_; first | exact rfl | assumption)))) | fail "no"
  k_with "sx" => first | ((try ((with_reducible refine zNx zA ?_); clear zA zB; (try clear zZ))); refine xExecsZ ?_; intro zZ zA zB) | fail "no"
  k_with "go" => repeat' (walk_at "go1")
  k_with "kr" => first | kernel_rfl! | (refine BindsTo.of_eq ?_; kernel_rfl!) | fail "no"
  k_with "go1" => first
    | ((with_reducible show wpAny _ _ (eval _ _) _ _ _); first
      | ((with_reducible show wpAny _ _ (eval (Expr.Name _ _) _) _ _ _); first | ((with_reducible refine' nL (by assumption) ?hv ?_); (case hv => walk_at "fr")) | ((with_reducible refine' nG (by assumption) (by assumption) ?hg ?_); (case hg => walk_at "g")) | ((with_reducible refine' nB (by assumption) (by assumption) ?hb ?_); (case hb => walk_at "g")))
      | (with_reducible refine xAttrN ?_)
      | (with_reducible refine xAttr ?_)
      | ((with_reducible show wpAny _ _ (eval (Expr.Constant ..) _) _ _ _); first
        | ((with_reducible refine conBy ?_); intro _ _)
        | ((with_reducible refine conInt ?_); intro _ _)
        | ((with_reducible refine conStr ?_); intro _ _)
        | (with_reducible refine wpAny_Constant_none ?_)
        | (with_reducible refine wpAny_Constant_bool ?_))
      | (with_reducible refine xMethod ?_)
      | (with_reducible refine xCall ?_)
      | (with_reducible refine xCut ?_)
      | (with_reducible refine Subscript_ ?_)
      | (with_reducible refine xCompare ?_)
      | (with_reducible refine wpAny_BinOp ?_)
      | (with_reducible refine Tuple_ ?_)
      | (with_reducible refine List_ ?_)
      | (with_reducible refine wpAny_IfExp ?_)
      | ((with_reducible refine' dNew (by assumption) (by assumption) ?_); intro _ _ _ _ _ _)
      | (with_reducible refine BoolOp_and ?_)
      | (with_reducible refine BoolOp_or ?_)
      | (with_reducible refine BoolOp_one ?_))
    | ((with_reducible show wpAny _ _ (callWith _ _ _ _ _) _ _ _); first
      | (with_reducible refine cBn ?_)
      | (with_reducible refine cB1 ?_)
      | (with_reducible refine cB01 ?_)
      | (with_reducible refine cT ?_)
      | ((with_reducible refine cGn ?hk ?_); (case hk => kernel_rfl!))
      | ((with_reducible refine cG1 ?hk ?_); (case hk => kernel_rfl!))
      | ((with_reducible refine cG01 (by assumption) (by assumption) ?hk ?_); (case hk => kernel_rfl!)))
    | ((with_reducible show wpAny _ _ (spliced _) _ _ _); first
      | (with_reducible refine xSplCons ?_)
      | (with_reducible refine xSplNil ?_))
    | ((with_reducible refine xExecsZ ?_); intro zZ zA zB)
    | (with_reducible refine wpAny_execs_nil ?_)
    | ((with_reducible show wpAny _ _ (exec _ _) _ _ _); first
      | (with_reducible refine xAssign ?_)
      | (with_reducible refine xAssignSub ?_)
      | (with_reducible refine xAssignAttr ?_)
      | (with_reducible refine xExpr ?_)
      | (with_reducible refine xIf ?_)
      | (with_reducible refine wpAny_Return_some ?_)
      | (with_reducible refine xFor ?_)
      | (with_reducible refine xWhile ?_)
      | (with_reducible refine wpAny_Continue ?_)
      | (with_reducible refine wpAny_Break ?_))
    | ((with_reducible show wpAny _ _ (PySem.isTrue _ _ _) _ _ _); first
      | (with_reducible refine xIsCompare ?_)
      | (with_reducible refine isTrue_and_nil ?_)
      | (with_reducible refine isTrue_and ?_)
      | (with_reducible refine isTrue_or_nil ?_)
      | (with_reducible refine isTrue_or ?_)
      | (with_reducible refine isTrue_not ?_)
      | (with_reducible refine isTrue_IfExp ?_)
      | (with_reducible refine xIsPlain ?_))
    | ((with_reducible show wpAny _ _ (compareOp _ _ _) _ _ _); first
      | (with_reducible refine eqB ?_)
      | (with_reducible refine neB ?_)
      | (with_reducible refine eqI ?_)
      | (with_reducible refine neI ?_)
      | (with_reducible refine gtI ?_)
      | (with_reducible refine geI ?_)
      | (with_reducible refine eqS ?_)
      | (with_reducible refine isNoneN ?_)
      | (with_reducible refine isNoneR ?_)
      | (with_reducible refine isNoneB ?_)
      | (with_reducible refine notNoneN ?_)
      | (with_reducible refine notNoneR ?_)
      | (with_reducible refine notNoneB ?_)
      | ((with_reducible refine' dIn ?hd ?_); (case hd => walk_at "df"); intro _)
      | ((with_reducible refine' dNotIn ?hd ?_); (case hd => walk_at "df"); intro _)
      | ((with_reducible refine byLe ?_); intro _))
    | ((with_reducible show wpAny _ _ (call _ _ _) _ _ _); first
      | ((with_reducible refine byStarts ?_); intro _)
      | ((with_reducible refine' byLower ?hz ?_); (case hz => walk_at "sz"); intro _ _)
      | ((with_reducible refine ordC ?_); intro _ _)
      | ((with_reducible refine byOfBy ?_); intro _)
      | ((with_reducible refine strI (by omega) ?_); intro _ _)
      | ((with_reducible refine' dLen ?hd ?hz ?_); (case hd => walk_at "df"); (case hz => walk_at "sz"); intro _ _)
      | ((with_reducible refine' lenB ?hz ?_); (case hz => walk_at "sz"); intro _ _))
    | ((with_reducible show wpAny _ _ (getMethod _ _ _) _ _ _); first
      | (with_reducible refine byMeth X.slot_bytes_lower X.type_bytes_lower ?_)
      | (with_reducible refine byMeth X.slot_bytes_find X.type_bytes_find ?_)
      | (with_reducible refine byMeth X.slot_bytes_split X.type_bytes_split ?_)
      | (with_reducible refine byMeth X.slot_bytes_join X.type_bytes_join ?_)
      | (with_reducible refine byMeth X.slot_bytes_startswith X.type_bytes_startswith ?_)
      | ((with_reducible refine' aM (by assumption) (by assumption) (by assumption) ?hf ?hv ?_); (case hf => walk_at "m"); (case hv => exact rfl))
      | ((with_reducible refine' lMeth ?hl PySem.F.slot_list_append PySem.F.type_list_append ?_); (case hl => walk_at "at"))
      | ((with_reducible refine' lMeth ?hl PySem.F.slot_list_extend PySem.F.type_list_extend ?_); (case hl => walk_at "at"))
      | ((with_reducible refine' lMeth ?hl PySem.F.slot_list_pop PySem.F.type_list_pop ?_); (case hl => walk_at "at")))
    | ((with_reducible show wpAny _ _ (getAttr _ _ _) _ _ _); first
      | ((with_reducible refine' aF (by assumption) (by assumption) (by assumption) ?hf ?hv ?hh ?_); (case hf => kernel_rfl!); (case hv => exact rfl); (case hh => exact rfl); intro _))
    | ((with_reducible show wpAny _ _ (binaryOp _ _ _) _ _ _); first
      | ((with_reducible refine addI ?_); intro _ _)
      | ((with_reducible refine andI ?_); intro _ _)
      | ((with_reducible refine modI (by decide) ?_); intro _ _)
      | ((with_reducible refine subI ?_); intro _ _)
      | ((with_reducible refine' addBy ?hz ?_); (case hz => walk_at "sz"); intro _ _))
    | (with_reducible refine testsNil ?_)
    | (with_reducible refine wpAny_bindName ?_)
    | (with_reducible refine wpAny_assign_Name ?_)
    | ((with_reducible refine sL (by assumption) ?_); intro _ _ _)
    | ((with_reducible refine' dItem ?hd ?hv ?_); (case hd => walk_at "df"); (case hv => assumption); intro _)
    | (with_reducible refine partN ?_)
    | (with_reducible refine partS ?_)
    | (with_reducible refine wpAny_truthy_bool ?_)
    | (with_reducible refine aOrd ?_)
    | (with_reducible refine aOrd0 ?_)
    | ((with_reducible refine' lNew (by assumption) ?hz ?_); (case hz => walk_at "sz"); intro _ _ _ _)
    | ((with_reducible refine' tNew (by assumption) ?hz ?_); (case hz => walk_at "sz"); intro _ _ _ _)
    | (with_reducible refine ifT ?_)
    | (with_reducible refine ifF ?_)
    | ((with_reducible refine zNx zA ?_); clear zA zB; (try clear zZ))
    | ((with_reducible refine zOut zB (by kernel_rfl!) ?_); clear zA zB; (try clear zZ))
    | (with_reducible refine zEnd (by assumption) ?_)
    | (with_reducible refine zRet (by assumption) ?_)
    | (with_reducible refine kin (by assumption) (by assumption) ?_)
    | fail "no"
  trivial
-- F8
section
section
variable {prog : Program} {w : World} {mg mb : Str → Option Value} {p : Program} {loose : List Str} {A : Around} {E : Value → Shared → Prop}
  {g h : Heap} {mu : List (Addr × Obj)} {gs : Array GenState} {dr : Drawn} {tk : Nat} {os : OsState}
theorem entry_new {e : En} {t1 t2 t3 : Tok} {Q : Value → Shared → Prop} {n : Nat} (C : Cx w mg mb p loose g) (k : Sub g h) (rm : Rm A (n + 2)) 
    (ret : ∀ x g' h' tk', Step [] g h g' h' → Own g' h' [] → IsEn g' (.ref x) e → Q (.ref x) ⟨h', gs, dr, tk', os⟩) :
    wpAny (model prog w) A (call (.ref 314) [.int (e.mode : Int) t1, .bytes e.name.toArray t2, .bytes e.oid.toArray t3]) Q E ⟨h, gs, dr, tk, os⟩ := by
  refine wpAny_call ?_
  refine mk (fI := 290) (Own.nil k) C (by kernel_rfl!) fun x dx h' hx hdx hgx sub sz ow => ?_
  refine enter (f := 290) (fd := fdOf w 290) (body := bodyOf w 290) (binds := [("self", .ref x), ("mode", .int (e.mode : Int) t1), ("name", .bytes e.name.toArray t2), ("oid", .bytes e.oid.toArray t3)]) C ow rm.under (oc := .type "function") (od := none) (osl := #[]) ?a ?b ?c ?d ?e ?walk ?f ?g ?i ?j
  case walk =>
    intro E h₁ tk₁ rm st Z0 z0
    walk_at "sx"
    walk_at "go"
    refine setF st C 1 rfl 0 rfl .nil rfl (by kernel_rfl!) (Nat.le_of_ble_eq_true rfl) fun h' o' tk' F st => ?_
    walk_at "sx"
    walk_at "go"
    refine setF st C 1 rfl 0 rfl F rfl (by kernel_rfl!) (Nat.le_of_ble_eq_true rfl) fun h' o' tk' F st => ?_
    walk_at "sx"
    walk_at "go"
    refine setF st C 1 rfl 0 rfl F rfl (by kernel_rfl!) (Nat.le_of_ble_eq_true rfl) fun h' o' tk' F st => ?_
    walk_at "go"
    have st := st.perm (mu' := [(x, instObj 314 dx), (dx, o')]) (.refl _)
    obtain ⟨g', sg, I, ow, sp⟩ := mkEnd hx hdx sub sz st F
    exact ⟨rfl, ret x g' _ _ sp ow ⟨x, t1, t2, t3, rfl, I⟩⟩
  all_goals walk_at "kr"

theorem tree_new {l : Addr} {Q : Value → Shared → Prop} {n : Nat} (C : Cx w mg mb p loose g) (k : Sub g h) (rm : Rm A (n + 2)) 
    (ret : ∀ x g' h' tk', Step [] g h g' h' → Own g' h' [] → InstF g' x 363 [("entries", .ref l)] → Q (.ref x) ⟨h', gs, dr, tk', os⟩) :
    wpAny (model prog w) A (call (.ref 363) [.ref l]) Q E ⟨h, gs, dr, tk, os⟩ := by
  refine wpAny_call ?_
  refine mk (fI := 346) (Own.nil k) C (by kernel_rfl!) fun x dx h' hx hdx hgx sub sz ow => ?_
  refine enter (f := 346) (fd := fdOf w 346) (body := bodyOf w 346) (binds := [("self", .ref x), ("entries", .ref l)]) C ow rm.under (oc := .type "function") (od := none) (osl := #[]) ?a ?b ?c ?d ?e ?walk ?f ?g ?i ?j
  case walk =>
    intro E h₁ tk₁ rm st Z0 z0
    walk_at "sx"
    walk_at "go"
    refine setF st C 1 rfl 0 rfl .nil rfl (by kernel_rfl!) (Nat.le_of_ble_eq_true rfl) fun h' o' tk' F st => ?_
    walk_at "go"
    have st := st.perm (mu' := [(x, instObj 363 dx), (dx, o')]) (.refl _)
    obtain ⟨g', sg, I, ow, sp⟩ := mkEnd hx hdx sub sz st F
    exact ⟨rfl, ret x g' _ _ sp ow I⟩
  all_goals walk_at "kr"

theorem change_new7 {wd : Str} {t : Tok} {om oi op nm ni np : Value} {Q : Value → Shared → Prop} {n : Nat} (C : Cx w mg mb p loose g) (k : Sub g h) (rm : Rm A (n + 2)) 
    (ret : ∀ x g' h' tk', Step [] g h g' h' → Own g' h' [] → InstF g' x 196 [("word", .str wd t), ("old_mode", om), ("old_id", oi), ("old_path", op), ("new_mode", nm), ("new_id", ni), ("new_path", np), ("score", .none)] → Q (.ref x) ⟨h', gs, dr, tk', os⟩) :
    wpAny (model prog w) A (call (.ref 196) [.str wd t, om, oi, op, nm, ni, np]) Q E ⟨h, gs, dr, tk, os⟩ := by
  refine wpAny_call ?_
  refine mk (fI := 141) (Own.nil k) C (by kernel_rfl!) fun x dx h' hx hdx hgx sub sz ow => ?_
  refine enter (f := 141) (fd := fdOf w 141) (body := bodyOf w 141) (binds := [("self", .ref x), ("word", .str wd t), ("old_mode", om), ("old_id", oi), ("old_path", op), ("new_mode", nm), ("new_id", ni), ("new_path", np), ("score", .none)]) C ow rm.under (oc := .type "function") (od := none) (osl := #[]) ?a ?b ?c ?d ?e ?walk ?f ?g ?i ?j
  case walk =>
    intro E h₁ tk₁ rm st Z0 z0
    walk_at "sx"
    walk_at "go"
    refine setF st C 1 rfl 0 rfl .nil rfl (by kernel_rfl!) (Nat.le_of_ble_eq_true rfl) fun h' o' tk' F st => ?_
    walk_at "sx"
    walk_at "go"
    refine setF st C 1 rfl 0 rfl F rfl (by kernel_rfl!) (Nat.le_of_ble_eq_true rfl) fun h' o' tk' F st => ?_
    walk_at "sx"
    walk_at "go"
    refine setF st C 1 rfl 0 rfl F rfl (by kernel_rfl!) (Nat.le_of_ble_eq_true rfl) fun h' o' tk' F st => ?_
    walk_at "sx"
    walk_at "go"
    refine setF st C 1 rfl 0 rfl F rfl (by kernel_rfl!) (Nat.le_of_ble_eq_true rfl) fun h' o' tk' F st => ?_
    walk_at "sx"
    walk_at "go"
    refine setF st C 1 rfl 0 rfl F rfl (by kernel_rfl!) (Nat.le_of_ble_eq_true rfl) fun h' o' tk' F st => ?_
    walk_at "sx"
    walk_at "go"
    refine setF st C 1 rfl 0 rfl F rfl (by kernel_rfl!) (Nat.le_of_ble_eq_true rfl) fun h' o' tk' F st => ?_
    walk_at "sx"
    walk_at "go"
    refine setF st C 1 rfl 0 rfl F rfl (by kernel_rfl!) (Nat.le_of_ble_eq_true rfl) fun h' o' tk' F st => ?_
    walk_at "sx"
    walk_at "go"
    refine setF st C 1 rfl 0 rfl F rfl (by kernel_rfl!) (Nat.le_of_ble_eq_true rfl) fun h' o' tk' F st => ?_
    walk_at "go"
    have st := st.perm (mu' := [(x, instObj 196 dx), (dx, o')]) (.refl _)
    obtain ⟨g', sg, I, ow, sp⟩ := mkEnd hx hdx sub sz st F
    exact ⟨rfl, ret x g' _ _ sp ow I⟩
  case d =>
    refine' BindsTo.of_defaults (T := 134) (o := tup #[.none] 0) (items := #[.none]) (n := 0) ?h1 ?h2 rfl ?h3 ?h4
    case h1 => kernel_rfl!
    case h2 => exact C.X.keeps ow.keep _ _ (by kernel_rfl!)
    case h3 => rfl
    case h4 => kernel_rfl!
  all_goals walk_at "kr"

theorem change_new8 {wd : Str} {t : Tok} {om oi op nm ni np sc : Value} {Q : Value → Shared → Prop} {n : Nat} (C : Cx w mg mb p loose g) (k : Sub g h) (rm : Rm A (n + 2)) 
    (ret : ∀ x g' h' tk', Step [] g h g' h' → Own g' h' [] → InstF g' x 196 [("word", .str wd t), ("old_mode", om), ("old_id", oi), ("old_path", op), ("new_mode", nm), ("new_id", ni), ("new_path", np), ("score", sc)] → Q (.ref x) ⟨h', gs, dr, tk', os⟩) :
    wpAny (model prog w) A (call (.ref 196) [.str wd t, om, oi, op, nm, ni, np, sc]) Q E ⟨h, gs, dr, tk, os⟩ := by
  refine wpAny_call ?_
  refine mk (fI := 141) (Own.nil k) C (by kernel_rfl!) fun x dx h' hx hdx hgx sub sz ow => ?_
  refine enter (f := 141) (fd := fdOf w 141) (body := bodyOf w 141) (binds := [("self", .ref x), ("word", .str wd t), ("old_mode", om), ("old_id", oi), ("old_path", op), ("new_mode", nm), ("new_id", ni), ("new_path", np), ("score", sc)]) C ow rm.under (oc := .type "function") (od := none) (osl := #[]) ?a ?b ?c ?d ?e ?walk ?f ?g ?i ?j
  case walk =>
    intro E h₁ tk₁ rm st Z0 z0
    walk_at "sx"
    walk_at "go"
    refine setF st C 1 rfl 0 rfl .nil rfl (by kernel_rfl!) (Nat.le_of_ble_eq_true rfl) fun h' o' tk' F st => ?_
    walk_at "sx"
    walk_at "go"
    refine setF st C 1 rfl 0 rfl F rfl (by kernel_rfl!) (Nat.le_of_ble_eq_true rfl) fun h' o' tk' F st => ?_
    walk_at "sx"
    walk_at "go"
    refine setF st C 1 rfl 0 rfl F rfl (by kernel_rfl!) (Nat.le_of_ble_eq_true rfl) fun h' o' tk' F st => ?_
    walk_at "sx"
    walk_at "go"
    refine setF st C 1 rfl 0 rfl F rfl (by kernel_rfl!) (Nat.le_of_ble_eq_true rfl) fun h' o' tk' F st => ?_
    walk_at "sx"
    walk_at "go"
    refine setF st C 1 rfl 0 rfl F rfl (by kernel_rfl!) (Nat.le_of_ble_eq_true rfl) fun h' o' tk' F st => ?_
    walk_at "sx"
    walk_at "go"
    refine setF st C 1 rfl 0 rfl F rfl (by kernel_rfl!) (Nat.le_of_ble_eq_true rfl) fun h' o' tk' F st => ?_
    walk_at "sx"
    walk_at "go"
    refine setF st C 1 rfl 0 rfl F rfl (by kernel_rfl!) (Nat.le_of_ble_eq_true rfl) fun h' o' tk' F st => ?_
    walk_at "sx"
    walk_at "go"
    refine setF st C 1 rfl 0 rfl F rfl (by kernel_rfl!) (Nat.le_of_ble_eq_true rfl) fun h' o' tk' F st => ?_
    walk_at "go"
    have st := st.perm (mu' := [(x, instObj 196 dx), (dx, o')]) (.refl _)
    obtain ⟨g', sg, I, ow, sp⟩ := mkEnd hx hdx sub sz st F
    exact ⟨rfl, ret x g' _ _ sp ow I⟩
  case d =>
    refine' BindsTo.of_defaults (T := 134) (o := tup #[.none] 0) (items := #[.none]) (n := 0) ?h1 ?h2 rfl ?h3 ?h4
    case h1 => kernel_rfl!
    case h2 => exact C.X.keeps ow.keep _ _ (by kernel_rfl!)
    case h3 => rfl
    case h4 => kernel_rfl!
  all_goals walk_at "kr"

theorem store_new {H : Addr} {Q : Value → Shared → Prop} {n : Nat} (C : Cx w mg mb p loose g) (k : Sub g h) (rm : Rm A (n + 2))
    (ret : ∀ S kd o g' h' tk', Step [] g h g' h' → Own g' h' [(kd, o)] → DM prog w kd o [] → InstF g' S 525 [("hasher", .ref H), ("kept", .ref kd)] → h.objs.size ≤ kd → Q (.ref S) ⟨h', gs, dr, tk', os⟩) :
    wpAny (model prog w) A (call (.ref 525) [.ref H]) Q E ⟨h, gs, dr, tk, os⟩ := by
  refine wpAny_call ?_
  refine mk (fI := 402) (Own.nil k) C (by kernel_rfl!) fun x dx h' hx hdx hgx sub sz ow => ?_
  refine enter (f := 402) (fd := fdOf w 402) (body := bodyOf w 402) (binds := [("self", .ref x), ("hasher", .ref H)]) C ow rm.under (oc := .type "function") (od := none) (osl := #[]) ?a ?b ?c ?d ?e ?walk ?f ?g ?i ?j
  case walk =>
    intro E h₁ tk₁ rm st Z0 z0
    walk_at "sx"
    walk_at "go"
    refine setF st C 1 rfl 0 rfl .nil rfl (by kernel_rfl!) (Nat.le_of_ble_eq_true rfl) fun h' o' tk' F st => ?_
    walk_at "sx"
    refine xAssignAttr ?_
    refine dNew st C fun kn h2 o2 D hkn st => ?_
    walk_at "go"
    refine setF st C 2 rfl 1 rfl F rfl (by kernel_rfl!) (Nat.le_of_ble_eq_true rfl) fun h' o' tk' F st => ?_
    walk_at "go"
    have st := st.perm (mu' := [(x, instObj 525 dx), (dx, o'), (kn, o2)]) (.trans (.swap ..) (.cons _ (.swap ..)))
    obtain ⟨g', sg, I, ow, sp⟩ := mkEnd hx hdx sub sz st F
    exact ⟨rfl, ret x kn o2 g' _ _ sp ow D I (Nat.le_trans sz hkn)⟩
  all_goals walk_at "kr"
end
end
-- F9
section
section
variable {prog : Program} {w : World} {mg mb : Str → Option Value} {p : Program} {loose : List Str} {A : Around} {E : Value → Shared → Prop}
  {g h : Heap} {mu : List (Addr × Obj)} {gs : Array GenState} {dr : Drawn} {tk : Nat} {os : OsState}
noncomputable def keyOf (e : En) : BY := if e.mode = 16384 then e.name ++ [47] else e.name
theorem sort_key_spec {x : Addr} {e : En} {t1 t2 t3 : Tok} {Q : Value → Shared → Prop} {n : Nat} (C : Cx w mg mb p loose g) (k : Sub g h) (rm : Rm A (n + 1)) (I : InstF g x 314 [("mode", .int e.mode t1), ("name", .bytes e.name.toArray t2), ("oid", .bytes e.oid.toArray t3)]) (hz : e.name.length ≤ 900)
    (ret : ∀ h' tk' t', Step [] g h g h' → Own g h' [] → Q (.bytes (keyOf e).toArray t') ⟨h', gs, dr, tk', os⟩) :
    wpAny (model prog w) A (call (.ref 297) [.ref x]) Q E ⟨h, gs, dr, tk, os⟩ := by
  refine wpAny_call ?_
  refine enter (f := 297) (fd := fdOf w 297) (body := bodyOf w 297) (binds := [("self", .ref x)]) C (Own.nil k) rm (oc := .type "function") (od := none) (osl := #[]) ?a ?b ?c ?d ?e ?walk ?f ?g ?i ?j
  case walk =>
    intro E h₁ tk₁ rm st Z0 z0
    walk_at "sx"
    walk_at "go"
    by_cases q : e.mode = 16384
    · rw [keyOf, if_pos q] at ret
      first | ((with_reducible refine ifP ?hc ?_); (case hc => exact (by rw [q]; decide))) | rw [if_pos (by rw [q]; decide)]
      walk_at "go"
      exact ret _ _ _ st.step st.own
    · rw [keyOf, if_neg q] at ret
      first | ((with_reducible refine ifN ?hc ?_); (case hc => exact (by simp; omega))) | rw [if_neg (by simp; omega)]
      walk_at "go"
      exact ret _ _ _ st.step st.own
  all_goals walk_at "kr"

noncomputable def pathOf (c : Ch) : Option BY := match c.npath with | none => c.opath | some b => some b
theorem path_spec {c : Ch} {x : Addr} {t : Tok} {m1 m2 v1 v2 v3 v4 sc : Value} {b : BY} {Q : Value → Shared → Prop} {n : Nat} (C : Cx w mg mb p loose g) (k : Sub g h) (rm : Rm A (n + 1))
    (I : InstF g x 196 [("word", .str c.word t), ("old_mode", m1), ("old_id", v1), ("old_path", v2), ("new_mode", m2), ("new_id", v3), ("new_path", v4), ("score", sc)]) (O2 : OB v2 c.opath) (O4 : OB v4 c.npath) (hp : pathOf c = some b)
    (ret : ∀ h' tk' t', Step [] g h g h' → Own g h' [] → Q (.bytes b.toArray t') ⟨h', gs, dr, tk', os⟩) :
    codeAny (model prog w) A (.call (.ref 148) ⟨[.ref x], []⟩) (fun r s' => match r with | .ok (.ret v) => handedIn v = true ∧ Q v s' | _ => False) ⟨h, gs, dr, tk, os⟩ := by
  obtain ⟨wd, ci, cp, ni, np⟩ := c
  refine enter (f := 148) (fd := fdOf w 148) (body := bodyOf w 148) (binds := [("self", .ref x)]) C (Own.nil k) rm (oc := .type "function") (od := none) (osl := #[]) ?a ?b ?c ?d ?e ?walk ?f ?g ?i ?j
  case walk =>
    intro E h₁ tk₁ rm st Z0 z0
    walk_at "sx"
    cases O4 with
    | none =>
      cases O2 with
      | none => cases hp
      | some b1 t1 =>
        cases hp
        walk_at "go"
        exact ⟨rfl, ret _ _ _ st.step st.own⟩
    | some b1 t1 =>
      cases hp
      walk_at "go"
      exact ⟨rfl, ret _ _ _ st.step st.own⟩
  all_goals walk_at "kr"

theorem order_spec {v : Value} {c : Ch} {b : BY} {Q : Value → Shared → Prop} {n : Nat} (C : Cx w mg mb p loose g) (k : Sub g h) (rm : Rm A (n + 3)) (I : IsCh g v c) (hp : pathOf c = some b)
    (ret : ∀ x g' h' tk' t1 t2, Step [] g h g' h' → Own g' h' [] → g'.get? x = some (tup #[.bytes b.toArray t1, .int (if c.word = "D" then 0 else 1) t2] 0) → Q (.ref x) ⟨h', gs, dr, tk', os⟩) :
    wpAny (model prog w) A (call (.ref 207) [v]) Q E ⟨h, gs, dr, tk, os⟩ := by
  obtain ⟨x, t, m1, m2, v1, v2, v3, v4, sc, rfl, I, O1, O2, O3, O4⟩ := I
  refine wpAny_call ?_
  refine enter (f := 207) (fd := fdOf w 207) (body := bodyOf w 207) (binds := [("change", .ref x)]) C (Own.nil k) rm (oc := .type "function") (od := none) (osl := #[]) ?a ?b ?c ?d ?e ?walk ?f ?g ?i ?j
  case walk =>
    intro E h₁ tk₁ rm st Z0 z0
    walk_at "sx"
    walk_at "go"
    refine aP (pp := 149) (fget := 148) st C I (by kernel_rfl!) fun tk' => ?_
    refine path_spec C st.own.keep rm.in1 I O2 O4 hp fun h' tk' t' sp ow => ?_
    have st := st.call (mu₁ := []) sp ow rfl
    walk_at "go"
    by_cases q : c.word = "D"
    · rw [if_pos q] at ret
      first | ((with_reducible refine ifP ?hc ?_); (case hc => exact (by rw [q]; decide))) | rw [if_pos (by rw [q]; decide)]
      walk_at "go"
      refine St.freezeC (by assumption) (by assumption) fun g' sg hg st => ?_
      walk_at "go"
      exact ret _ _ _ _ _ _ st.step st.own hg
    · rw [if_neg q] at ret
      first | ((with_reducible refine ifN ?hc ?_); (case hc => exact (by simp; exact fun e => q (congrArg Str.mk e)))) | rw [if_neg (by simp; exact fun e => q (congrArg Str.mk e))]
      walk_at "go"
      refine St.freezeC (by assumption) (by assumption) fun g' sg hg st => ?_
      walk_at "go"
      exact ret _ _ _ _ _ _ st.step st.own hg
  all_goals walk_at "kr"

theorem added_spec {x : Addr} {e : En} {t0 t1 t2 t3 : Tok} {b : BY} {Q : Value → Shared → Prop} {n : Nat} (C : Cx w mg mb p loose g) (k : Sub g h) (rm : Rm A (n + 3)) (I : InstF g x 314 [("mode", .int e.mode t1), ("name", .bytes e.name.toArray t2), ("oid", .bytes e.oid.toArray t3)])
    (ret : ∀ y g' h' tk', Step [] g h g' h' → Own g' h' [] → IsCh g' (.ref y) ⟨"A", none, none, some e.oid, some b⟩ → Q (.ref y) ⟨h', gs, dr, tk', os⟩) :
    wpAny (model prog w) A (call (.ref 229) [.bytes b.toArray t0, .ref x]) Q E ⟨h, gs, dr, tk, os⟩ := by
  refine wpAny_call ?_
  refine enter (f := 229) (fd := fdOf w 229) (body := bodyOf w 229) (binds := [("path", .bytes b.toArray t0), ("entry", .ref x)]) C (Own.nil k) rm (oc := .type "function") (od := none) (osl := #[]) ?a ?b ?c ?d ?e ?walk ?f ?g ?i ?j
  case walk =>
    intro E h₁ tk₁ rm st Z0 z0
    walk_at "sx"
    walk_at "go"
    refine change_new7 C st.own.keep (by assumption) fun y g' h' tk' sp ow I => ?_
    have st := st.call (mu₁ := []) sp ow rfl
    walk_at "go"
    exact ret _ _ _ _ st.step st.own ⟨_, _, _, _, _, _, _, _, _, rfl, I, .none, .none, .some _ _, .some _ _⟩
  all_goals walk_at "kr"
theorem gone_spec {x : Addr} {e : En} {t0 t1 t2 t3 : Tok} {b : BY} {Q : Value → Shared → Prop} {n : Nat} (C : Cx w mg mb p loose g) (k : Sub g h) (rm : Rm A (n + 3)) (I : InstF g x 314 [("mode", .int e.mode t1), ("name", .bytes e.name.toArray t2), ("oid", .bytes e.oid.toArray t3)])
    (ret : ∀ y g' h' tk', Step [] g h g' h' → Own g' h' [] → IsCh g' (.ref y) ⟨"D", some e.oid, some b, none, none⟩ → Q (.ref y) ⟨h', gs, dr, tk', os⟩) :
    wpAny (model prog w) A (call (.ref 236) [.bytes b.toArray t0, .ref x]) Q E ⟨h, gs, dr, tk, os⟩ := by
  refine wpAny_call ?_
  refine enter (f := 236) (fd := fdOf w 236) (body := bodyOf w 236) (binds := [("path", .bytes b.toArray t0), ("entry", .ref x)]) C (Own.nil k) rm (oc := .type "function") (od := none) (osl := #[]) ?a ?b ?c ?d ?e ?walk ?f ?g ?i ?j
  case walk =>
    intro E h₁ tk₁ rm st Z0 z0
    walk_at "sx"
    walk_at "go"
    refine change_new7 C st.own.keep (by assumption) fun y g' h' tk' sp ow I => ?_
    have st := st.call (mu₁ := []) sp ow rfl
    walk_at "go"
    exact ret _ _ _ _ st.step st.own ⟨_, _, _, _, _, _, _, _, _, rfl, I, .some _ _, .some _ _, .none, .none⟩
  all_goals walk_at "kr"

/-- an entry, or None -/
inductive OE (g : Heap) : Value → Option En → Prop
  | none : OE g .none none
  | some {v : Value} {e : En} : IsEn g v e → OE g v (some e)
theorem OE.sub {g g' : Heap} {v : Value} {e : Option En} (I : OE g v e) (k : Sub g g') : OE g' v e := match I with | .none => .none | .some i => .some (i.sub k)
noncomputable def alikeB : Option En → Option En → Bool
  | some a, some b => decide (a.mode = b.mode) && (a.oid == b.oid)
  | _, _ => false
theorem alike_spec {u v : Value} {a b : Option En} {Q : Value → Shared → Prop} {n : Nat} (C : Cx w mg mb p loose g) (k : Sub g h) (rm : Rm A (n + 1)) (Ia : OE g u a) (Ib : OE g v b)
    (ret : ∀ h' tk', Step [] g h g h' → Own g h' [] → Q (.bool (alikeB a b)) ⟨h', gs, dr, tk', os⟩) :
    wpAny (model prog w) A (call (.ref 250) [u, v]) Q E ⟨h, gs, dr, tk, os⟩ := by
  refine wpAny_call ?_
  refine enter (f := 250) (fd := fdOf w 250) (body := bodyOf w 250) (binds := [("old", u), ("new", v)]) C (Own.nil k) rm (oc := .type "function") (od := none) (osl := #[]) ?a ?b ?c ?d ?e ?walk ?f ?g ?i ?j
  case walk =>
    intro E h₁ tk₁ rm st Z0 z0
    walk_at "sx"
    cases Ia with
    | none =>
      walk_at "go"
      exact ret _ _ st.step st.own
    | some Ia =>
      rename_i a
      obtain ⟨x, t1, t2, t3, rfl, Ia⟩ := Ia
      cases Ib with
      | none =>
        walk_at "go"
        exact ret _ _ st.step st.own
      | some Ib =>
        rename_i b
        obtain ⟨y, u1, u2, u3, rfl, Ib⟩ := Ib
        walk_at "go"
        by_cases q : a.mode = b.mode
        · first | ((with_reducible refine ifP ?hc ?_); (case hc => exact (by simp [q]))) | rw [if_pos (by simp [q])]
          walk_at "go"
          have e : (a.oid == b.oid) = alikeB (some a) (some b) := by simp [alikeB, q]
          rw [e]
          walk_at "go"
          exact ret _ _ st.step st.own
        · first | ((with_reducible refine ifN ?hc ?_); (case hc => exact (by simp; omega))) | rw [if_neg (by simp; omega)]
          have e : ((a.mode : Int) == b.mode) = alikeB (some a) (some b) := by
            have : ¬ ((a.mode : Int) = b.mode) := by omega
            simp [alikeB, q, this]
          rw [e]
          walk_at "go"
          exact ret _ _ st.step st.own
  all_goals walk_at "kr"
end
end
-- F10
section
section
variable {prog : Program} {w : World} {mg mb : Str → Option Value} {p : Program} {loose : List Str} {A : Around} {E : Value → Shared → Prop}
  {g h : Heap} {mu : List (Addr × Obj)} {gs : Array GenState} {dr : Drawn} {tk : Nat} {os : OsState}
theorem findB_none {x : BY} {c : UInt8} (h : c ∉ x) : findB x [c] = -1 := by
  unfold findB
  split
  · rename_i i e
    split at e
    · cases e
    · unfold Builtin.Bytes.find? at e
      have := List.find?_some e
      obtain ⟨j, hj, rfl⟩ := List.mem_map.mp (List.mem_of_find?_eq_some e)
      have hj := List.mem_range.mp hj
      simp at this hj
      exfalso
      have h2 : c ∈ List.take 1 (List.drop j x) := by rw [this]; simp
      exact h (List.mem_of_mem_drop (List.mem_of_mem_take h2))
  · rfl
theorem has_sign_spec {x y : BY} {t u : Tok} {Q : Value → Shared → Prop} {n : Nat} (C : Cx w mg mb p loose g) (k : Sub g h) (rm : Rm A (n + 2)) (hz : y.length ≤ 1000) (hno : ∀ c ∈ y, c ∉ x)
    (ret : ∀ h' tk', Step [] g h g h' → Own g h' [] → Q (.bool false) ⟨h', gs, dr, tk', os⟩) :
    wpAny (model prog w) A (call (.ref 269) [.bytes x.toArray t, .bytes y.toArray u]) Q E ⟨h, gs, dr, tk, os⟩ := by
  refine wpAny_call ?_
  refine enter (f := 269) (fd := fdOf w 269) (body := bodyOf w 269) (binds := [("octets", .bytes x.toArray t), ("signs", .bytes y.toArray u)]) C (Own.nil k) rm (oc := .type "function") (od := none) (osl := #[]) ?a ?b ?c ?d ?e ?walk ?f ?g ?i ?j
  case walk =>
    intro E h₁ tk₁ rm st Z0 z0
    walk_at "sx"
    walk_at "go"
    refine forI (Iter.bytes rm.hh) st (fun i g₁ m₁ mu₁ => g₁ = g ∧ mu₁ = [] ∧ m₁ "octets" = some (.bytes x.toArray t)) ⟨rfl, rfl, rfl⟩ ?turn ?done ?ht
    case ht => intro I v; rfl
    case turn =>
      intro i v I g₁ h₁ m₁ mu₁ tk₁ oI E hi hp zj sg st Z zn zb zr
      obtain ⟨rfl, rfl, hm⟩ := zj
      obtain ⟨c, tc, hc, rfl⟩ := hp
      walk_at "go"
      obtain st : St _ _ _ _ _ _ ((_, lst _ _) :: _) _ := by assumption
      refine byOfInts (ns := [(c.toNat : Int)]) st rm.hh (st.at 0 rfl) (.cons _ _ .nil) (fun n hn => by rw [List.mem_singleton.mp hn]; have := UInt8.toNat_lt c; omega) (by simp) fun h' tk' t' st => ?_
      have eb : byteArr [(c.toNat : Int)] = [c].toArray := by simp [byteArr]
      rw [eb]
      walk_at "go"
      refine byFind fun _ _ => ?_
      rw [findB_none (hno c (List.mem_of_getElem? hc))]
      walk_at "go"
      first | ((with_reducible refine ifN ?hc ?_); (case hc => exact (by decide))) | rw [if_neg (by decide)]
      walk_at "go"
      exact zn _ g₁ _ _ _ _ rfl Sub.rfl (st.sub (List.sublist_cons_self _ _)) ⟨rfl, rfl, by walk_at "fr"⟩
    case done =>
      rintro g₁ h₁ m₁ mu₁ tk₁ ⟨rfl, rfl, hm⟩ sg st
      walk_at "go"
      exact ret _ _ st.step st.own
  all_goals walk_at "kr"

theorem are_all_spec {x y : BY} {t u : Tok} {Q : Value → Shared → Prop} {n : Nat} (C : Cx w mg mb p loose g) (k : Sub g h) (rm : Rm A (n + 2)) (hz : x.length ≤ 1000) (hno : ∃ c ∈ x, c ∉ y)
    (ret : ∀ h' tk', Step [] g h g h' → Own g h' [] → Q (.bool false) ⟨h', gs, dr, tk', os⟩) :
    wpAny (model prog w) A (call (.ref 276) [.bytes x.toArray t, .bytes y.toArray u]) Q E ⟨h, gs, dr, tk, os⟩ := by
  refine wpAny_call ?_
  refine enter (f := 276) (fd := fdOf w 276) (body := bodyOf w 276) (binds := [("octets", .bytes x.toArray t), ("signs", .bytes y.toArray u)]) C (Own.nil k) rm (oc := .type "function") (od := none) (osl := #[]) ?a ?b ?c ?d ?e ?walk ?f ?g ?i ?j
  case walk =>
    intro E h₁ tk₁ rm st Z0 z0
    walk_at "sx"
    walk_at "go"
    refine forI (Iter.bytes rm.hh) st (fun i g₁ m₁ mu₁ => g₁ = g ∧ mu₁ = [] ∧ m₁ "signs" = some (.bytes y.toArray u) ∧ ∀ c ∈ x.take i, c ∈ y) ⟨rfl, rfl, rfl, by simp⟩ ?turn ?done ?ht
    case ht => intro I v; rfl
    case turn =>
      intro i v I g₁ h₁ m₁ mu₁ tk₁ oI E hi hp zj sg st Z zn zb zr
      obtain ⟨rfl, rfl, hm, hall⟩ := zj
      obtain ⟨c, tc, hc, rfl⟩ := hp
      walk_at "go"
      refine byNotIn (k := c.toNat) (UInt8.toNat_lt c) fun _ => ?_
      have hcc : c.toNat.toUInt8 = c := by simp
      rw [hcc]
      walk_at "go"
      by_cases q : c ∈ y
      · first | ((with_reducible refine ifN ?hc ?_); (case hc => exact (by simpa using q))) | rw [if_neg (by simpa using q)]
        walk_at "go"
        refine zn _ g₁ _ _ _ _ rfl Sub.rfl ‹_› ⟨rfl, rfl, by walk_at "fr", fun d hd => ?_⟩
        rw [List.take_succ_eq_append_getElem hi] at hd
        rcases List.mem_append.mp hd with hd | hd
        · exact hall d hd
        · have : x[i] = c := by simpa [List.getElem?_eq_some_iff, hi] using hc
          rw [this] at hd
          rw [List.mem_singleton.mp hd]; exact q
      · first | ((with_reducible refine ifP ?hc ?_); (case hc => exact (by simpa using q))) | rw [if_pos (by simpa using q)]
        walk_at "go"
        obtain st : St _ _ _ _ _ _ _ _ := by assumption
        walk_at "go"
        exact ret _ _ st.step (st.sub (List.nil_sublist _)).own
    case done =>
      rintro g₁ h₁ m₁ mu₁ tk₁ ⟨rfl, rfl, hm, hall⟩ sg st
      exfalso
      obtain ⟨c, hc, hn⟩ := hno
      exact hn (hall c (by rw [List.take_of_length_le (Nat.le_refl _)]; exact hc))
  all_goals walk_at "kr"
end
end
-- F11
section
section
variable {prog : Program} {w : World} {mg mb : Str → Option Value} {p : Program} {loose : List Str} {A : Around} {E : Value → Shared → Prop}
  {g h : Heap} {mu : List (Addr × Obj)} {gs : Array GenState} {dr : Drawn} {tk : Nat} {os : OsState}
theorem aSw {M : Model} {A : Around} {E : Value → Shared → Prop} {s : Shared} {env : Env} {n : Str} {ns : List Str} {x : Value} {xs : List Value} {Q : Unit → Shared → Prop}
    (h : wpAny M A (bindName env n x) (fun _ s₁ => wpAny M A (assignInOrder (ns.map fun n => bindName env n) xs) Q E s₁) E s) : wpAny M A (assignInOrder ((n :: ns).map fun n => bindName env n) (x :: xs)) Q E s := assignInOrder_cons h
theorem aSw0 {M : Model} {A : Around} {E : Value → Shared → Prop} {s : Shared} {env : Env} {xs : List Value} {Q : Unit → Shared → Prop}
    (h : Q () s) : wpAny M A (assignInOrder (([] : List Str).map fun n => bindName env n) xs) Q E s := assignInOrder_nil h
structure NameOk (b : BY) : Prop where
  z : b.length ≤ 500
  a : b ≠ []
  d : b ≠ [46] ∧ b ≠ [46, 46]
  l : b.map Builtin.Bytes.toLower ≠ [46, 103, 105, 116]
  s : 47 ∉ b
  n : 0 ∉ b
theorem name_fault_spec {x : BY} {t : Tok} {Q : Value → Shared → Prop} {n : Nat} (C : Cx w mg mb p loose g) (k : Sub g h) (rm : Rm A (n + 3)) (ok : NameOk x)
    (ret : ∀ h' tk', Step [] g h g h' → Own g h' [] → Q .none ⟨h', gs, dr, tk', os⟩) :
    wpAny (model prog w) A (call (.ref 332) [.bytes x.toArray t]) Q E ⟨h, gs, dr, tk, os⟩ := by
  obtain ⟨oz, oa, ⟨od1, od2⟩, ol, os1, os2⟩ := ok
  refine wpAny_call ?_
  refine enter (f := 332) (fd := fdOf w 332) (body := bodyOf w 332) (binds := [("name", .bytes x.toArray t)]) C (Own.nil k) rm (oc := .type "function") (od := none) (osl := #[]) ?a ?b ?c ?d ?e ?walk ?f ?g ?i ?j
  case walk =>
    intro E h₁ tk₁ rm st Z0 z0
    walk_at "sx"
    walk_at "go"
    first | ((with_reducible refine ifN ?hc ?_); (case hc => exact (by simpa using oa))) | rw [if_neg (by simpa using oa)]
    walk_at "go"
    obtain st : St _ _ _ _ _ _ ((_, tup _ _) :: _) _ := by assumption
    refine byInT (bs := [[46], [46, 46]]) (st.at 0 rfl) (.cons (.cons .nil)) ?_
    walk_at "go"
    first | ((with_reducible refine ifN ?hc ?_); (case hc => exact (by simp [od1, od2]))) | rw [if_neg (by simp [od1, od2])]
    walk_at "go"
    first | ((with_reducible refine ifN ?hc ?_); (case hc => exact (by simpa using ol))) | rw [if_neg (by simpa using ol)]
    walk_at "go"
    refine has_sign_spec (y := [47, 0]) C st.own.keep (by assumption) (Nat.le_of_ble_eq_true rfl) ?hno fun h' tk' sp ow => ?_
    case hno => intro c hc; simp at hc; rcases hc with rfl | rfl <;> assumption
    have st := st.call (mu₁ := []) sp ow rfl
    walk_at "go"
    exact ret _ _ st.step (st.sub (List.nil_sublist _)).own
  all_goals walk_at "kr"

noncomputable def leB (x y : BY) : Bool := Builtin.Bytes.holds "__le__" (Builtin.Bytes.order x y)
structure EnOk (e : En) : Prop where
  m : e.mode = 33188 ∨ e.mode = 16384
  n : NameOk e.name
  o : ∃ c ∈ e.oid, c ∉ ([0] : BY)
  z : e.oid.length ≤ 100
structure EsOk (es : List En) : Prop where
  all : ∀ e ∈ es, EnOk e
  z : es.length ≤ 1000
  nd : (es.map En.name).Nodup
  so : ∀ i a b, es[i]? = some a → es[i + 1]? = some b → leB (keyOf b) (keyOf a) = false

noncomputable def AheadIs (es : List En) (i : Nat) (av : Value) : Prop := (i = 0 ∧ av = .none) ∨ ∃ j e t, i = j + 1 ∧ es[j]? = some e ∧ av = .bytes (keyOf e).toArray t
set_option maxHeartbeats 1000000 in
theorem tree_faults_spec {x l : Addr} {vs : List Value} {nl : Nat} {es : List En} {Q : Value → Shared → Prop} {n : Nat} (C : Cx w mg mb p loose g) (k : Sub g h) (rm : Rm A (n + 4)) (ok : EsOk es)
    (I : InstF g x 363 [("entries", .ref l)]) (hl : g.get? l = some (lst vs.toArray nl)) (hv : All2 (IsEn g) vs es)
    (ret : ∀ d g' h' tk' m, Step [] g h g' h' → Own g' h' [] → g'.get? d = some (lst #[] m) → Q (.ref d) ⟨h', gs, dr, tk', os⟩) :
    wpAny (model prog w) A (call (.ref 374) [.ref x]) Q E ⟨h, gs, dr, tk, os⟩ := by
  refine wpAny_call ?_
  refine enter (f := 374) (fd := fdOf w 374) (body := bodyOf w 374) (binds := [("tree", .ref x)]) C (Own.nil k) rm (oc := .type "function") (od := none) (osl := #[]) ?a ?b ?c ?d ?e ?walk ?f ?g ?i ?j
  case walk =>
    intro E h₁ tk₁ rm st Z0 z0
    walk_at "sx"
    walk_at "go"
    with_reducible refine Assign_Tuple_swapped (names := ["found", "known", "ahead"]) ?_ (by kernel_rfl!) (by kernel_rfl!)
    refine Tuple_ ?_
    refine xSplCons ?_
    refine List_ ?_
    refine xSplNil ?_
    refine lNew st (Nat.le_of_ble_eq_true rfl) fun d h' hd st => ?_
    refine xSplCons ?_
    refine dNew st C fun kn h' o D hkn st => ?_
    walk_at "go"
    rename_i tu h2 _ st
    refine uTup st rm.hh (st.at 0 rfl) rfl fun h' st => ?_
    have st := st.sub (List.sublist_cons_self _ _)
    refine aSw (n := "ahead") (ns := ["known", "found"]) (x := .none) (xs := [.ref kn, .ref d]) ?_
    walk_at "go"
    refine aSw ?_
    walk_at "go"
    refine aSw ?_
    walk_at "go"
    refine aSw0 ?_
    walk_at "go"
    obtain st : St _ _ _ _ _ _ [(kn, o), (d, lst #[] 0)] _ := by assumption
    refine forI (Iter.list rm.hh (isl hl)) st (fun i g₁ m₁ mu₁ => g₁ = g ∧ ∃ o kvs av, mu₁ = [(kn, o), (d, lst #[] 0)] ∧ DM prog w kn o kvs ∧ kvs.map (·.1) = (es.take i).map En.name ∧ m₁ "found" = some (.ref d) ∧ m₁ "known" = some (.ref kn) ∧ m₁ "ahead" = some av ∧ AheadIs es i av)
      ⟨rfl, o, [], .none, rfl, D, rfl, by walk_at "fr", by walk_at "fr", by walk_at "fr", .inl ⟨rfl, rfl⟩⟩ ?turn ?done ?ht
    case ht => intro I v; rfl
    case done =>
      rintro g₁ h₁ m₁ mu₁ tk₁ ⟨rfl, o, kvs, av, rfl, D, hk, m1, m2, m3, ha⟩ sg st
      walk_at "go"
      refine (st.perm (mu' := [(d, lst #[] 0), (kn, o)]) (.swap ..)).freezeC hd fun g' sg hg st => ?_
      walk_at "go"
      exact ret _ _ _ _ _ st.step (st.sub (List.nil_sublist _)).own hg
    case turn =>
      intro i v I g₁ h₁ m₁ mu₁ tk₁ oI E hi hp zj sg st Z zn zb zr
      obtain ⟨rfl, o, kvs, av, rfl, D, hk, m1, m2, m3, ha⟩ := zj
      have hlen : vs.length = es.length := hv.length
      have hi' : i < es.length := by simpa [hlen] using hi
      have he := List.getElem?_eq_getElem hi'
      generalize es[i] = e at he
      obtain ⟨v', hv', Ie⟩ := hv.get he
      have hp : vs[i]? = some v := by simpa using hp
      rw [hp] at hv'
      cases hv'
      obtain ⟨x, t1, t2, t3, rfl, Ie⟩ := Ie
      obtain ⟨em, en, ⟨eo, eo1, eo2⟩, ez⟩ := ok.all e (List.mem_of_getElem? he)
      have hnz : e.name.length ≤ 500 := en.z
      have hkl : kvs.length ≤ 1000 := by
        have := congrArg List.length hk
        simp at this
        have := ok.z
        omega
      walk_at "go"
      obtain st : St _ _ _ _ _ _ _ _ := by assumption
      refine notin_tuple_ints (t := 262) (items := #[.int 33188 200, .int 33261 202, .int 40960 204, .int 16384 206, .int 57344 208]) (ns := [33188, 33261, 40960, 16384, 57344]) ⟨tup #[.int 33188 200, .int 33261 202, .int 40960 204, .int 16384 206, .int 57344 208] 0, C.X.keeps st.own.keep _ _ (by kernel_rfl!), rfl, 0, rfl⟩ (by repeat constructor) ?_
      walk_at "go"
      first | ((with_reducible refine ifN ?hc ?_); (case hc => exact (by rcases em with q | q <;> rw [q] <;> decide))) | rw [if_neg (by rcases em with q | q <;> rw [q] <;> decide)]
      walk_at "go"
      refine name_fault_spec C st.own.keep (by assumption) en fun h' tk' sp ow => ?_
      have st := st.call (mu₁ := []) sp ow rfl
      walk_at "go"
      have hin : e.name ∉ kvs.map (·.1) := by
        rw [hk]
        intro q
        obtain ⟨j, hj⟩ := List.getElem?_of_mem q
        rw [List.getElem?_map] at hj
        obtain ⟨e', he', hn⟩ := Option.map_eq_some_iff.mp hj
        have hjl : j < i := by
          have := (List.getElem?_eq_some_iff.mp he').1
          simp at this; omega
        rw [List.getElem?_take_of_lt hjl] at he'
        have := (List.getElem?_inj (i := j) (j := i) (by simp; omega) ok.nd).mp (by simp [he', he, hn])
        omega
      obtain st : St _ _ _ _ _ _ _ _ := by assumption
      have hk2 : (es.take (i + 1)).map En.name = (es.take i).map En.name ++ [e.name] := by rw [List.take_add_one, he, List.map_append]; rfl
      rw [valueAt_none hin, if_neg (by simp)]
      rcases ha with ⟨rfl, rfl⟩ | ⟨j, e', t', rfl, he', rfl⟩
      case' inl => walk_at "go"
      case' inr =>
        walk_at "go"
        refine sort_key_spec (e := e) C st.own.keep (by assumption) Ie (by omega) fun h' tk' t' sp ow => ?_
        have st := st.call (mu₁ := []) sp ow rfl
        walk_at "go"
        have hle : Builtin.Bytes.holds "__le__" (Builtin.Bytes.order (keyOf e) (keyOf e')) = false := ok.so j e' e he' he
        rw [hle]
        walk_at "go"
      all_goals
        obtain st : St _ _ _ _ _ _ _ _ := by assumption
        refine are_all_spec (y := [0]) C st.own.keep (by assumption) (by omega) ⟨eo, eo1, eo2⟩ fun h' tk' sp ow => ?_
        have st := st.call (mu₁ := []) sp ow rfl
        walk_at "go"
        refine dSet st 1 rfl D (by omega) fun h' o' tk' D st => ?_
        walk_at "go"
        refine sort_key_spec (e := e) C st.own.keep (by assumption) Ie (by omega) fun h' tk' t' sp ow => ?_
        have st := st.call (mu₁ := []) sp ow rfl
        walk_at "go"
        obtain st : St _ _ _ _ _ _ _ _ := by assumption
        refine zn _ g₁ _ _ _ _ rfl Sub.rfl st ⟨rfl, o', _, _, rfl, D, ?_, by walk_at "fr", by walk_at "fr", by walk_at "fr", .inr ⟨_, e, _, rfl, he, rfl⟩⟩
        rw [stored_new hin, List.map_append, hk, hk2]
        rfl
  all_goals walk_at "kr"

theorem check_tree_spec {x l : Addr} {vs : List Value} {nl : Nat} {es : List En} {Q : Value → Shared → Prop} {n : Nat} (C : Cx w mg mb p loose g) (k : Sub g h) (rm : Rm A (n + 5)) (ok : EsOk es)
    (I : InstF g x 363 [("entries", .ref l)]) (hl : g.get? l = some (lst vs.toArray nl)) (hv : All2 (IsEn g) vs es)
    (ret : ∀ h' tk', Step [] g h g h' → Own g h' [] → Q .none ⟨h', gs, dr, tk', os⟩) :
    wpAny (model prog w) A (call (.ref 381) [.ref x]) Q E ⟨h, gs, dr, tk, os⟩ := by
  refine wpAny_call ?_
  refine enter (f := 381) (fd := fdOf w 381) (body := bodyOf w 381) (binds := [("tree", .ref x)]) C (Own.nil k) rm (oc := .type "function") (od := none) (osl := #[]) ?a ?b ?c ?d ?e ?walk ?f ?g ?i ?j
  case walk =>
    intro E h₁ tk₁ rm st Z0 z0
    walk_at "sx"
    walk_at "go"
    refine tree_faults_spec C st.own.keep (by assumption) ok I hl hv fun d g' h' tk' m sp ow hg => ?_
    have st := st.call (mu₁ := []) sp ow rfl
    have C := C.sub sp.sub
    walk_at "go"
    obtain st : St _ _ _ _ _ _ _ _ := by assumption
    refine lenL (its := []) (st.own.keep _ _ hg) (Nat.le_of_ble_eq_true rfl) fun _ _ => ?_
    walk_at "go"
    first | ((with_reducible refine ifN ?hc ?_); (case hc => exact (by decide))) | rw [if_neg (by decide)]
    walk_at "go"
    exact ret _ _ st.step.drop (st.own.drop st.step.sub)
  all_goals walk_at "kr"
end
end
-- F12
section
section
variable {prog : Program} {w : World} {mg mb : Str → Option Value} {p : Program} {loose : List Str} {A : Around} {E : Value → Shared → Prop}
  {g h : Heap} {mu : List (Addr × Obj)} {gs : Array GenState} {dr : Drawn} {tk : Nat} {os : OsState}
theorem St.adopt {gE hE g h h' : Heap} {S : List Addr} {L d : Addr} {o : Obj} {m : Str → Option Value} {mu : List (Addr × Obj)} (st : St gE hE S g L m mu h) (k : Sub h h') (hd : h.objs.size ≤ d) (ho : h'.get? d = some o) : St gE hE S g L m ((d, o) :: mu) h' := by
  have st' := st.grow' k
  have nlt : ∀ b x, h.get? b = some x → b ≠ d := fun b x e q => by subst q; exact absurd (Heap.lt_size e) (Nat.not_lt.mpr hd)
  refine ⟨⟨st'.own.keep, fun q hq => ?_, ?_⟩, st'.step, st'.ns, st'.gl, st'.lo, fun q hq => ?_⟩
  · rcases List.mem_cons.mp hq with rfl | hq
    · refine ⟨ho, ?_⟩
      cases e : g.get? d with
      | none => rfl
      | some x => exact absurd rfl (nlt _ _ (st.own.keep _ _ e))
    · exact st'.own.mem q hq
  · rw [List.map_cons, List.nodup_cons]
    refine ⟨fun q => ?_, st.own.nd⟩
    obtain ⟨r, hr, e⟩ := List.mem_map.mp q
    exact nlt _ _ (st.own.mem r hr).1 e
  · rcases List.mem_cons.mp hq with rfl | hq
    · exact ⟨fun e => absurd st.ns.lt (by rw [← e]; exact Nat.not_lt.mpr hd), .inr (Nat.le_trans st.step.size hd)⟩
    · exact st'.ml q hq
namespace C
theorem callT0 {pos : Pos} {T : String} {env : Env} {Q : Value → Shared → Prop} {s : Shared} (h : wpC (model prog w) A (call (.type T) []) Q s) : wpC (model prog w) A (callWith pos (.type T) [] (backTo pos (starEach [] env)) []) Q s := by
  have h' : wpC (model prog w) A (evalArgs (.type T) true [] []) (fun a s₁ => wpC (model prog w) A (call (.type T) ([] ++ a.pos) a.kw) Q s₁) s := args_nil h
  show wpC (model prog w) A (callWith pos (.type T) [] [] []) Q s
  unfold callWith
  refine bind (holding' (mono h' fun a s₁ h₁ => bind (standAt' ?_)))
  simp only [List.any_nil, Bool.or_false]
  refine bind (pure' ?_)
  exact bind (mono h₁ fun r s₂ hr => bind (holding' (point' (pure' hr))))
end C
noncomputable def octD (m i : Nat) : BY := (List.range i).map fun j => (48 + m / 8 ^ j % 8).toUInt8
theorem eights_spec {m N : Nat} {t : Tok} {Q : Value → Shared → Prop} {n : Nat} (CX : Cx w mg mb p loose g) (k : Sub g h) (rm : Rm A (n + 2)) (hN : m / 8 ^ N = 0) (hN1 : ∀ i, i < N → 0 < m / 8 ^ i) (hN2 : 0 < N ∧ N ≤ 20) (hm : m < 1000000)
    (ret : ∀ h' tk' t', Step [] g h g h' → Own g h' [] → Q (.bytes (octD m N).reverse.toArray t') ⟨h', gs, dr, tk', os⟩) :
    wpC (model prog w) A (call (.ref 325) [.int (m : Int) t]) Q ⟨h, gs, dr, tk, os⟩ := by
  refine C.call' ?_
  refine C.enter (f := 325) (fd := fdOf w 325) (body := bodyOf w 325) (binds := [("number", .int (m : Int) t)]) CX (Own.nil k) rm (oc := .type "function") (od := none) (osl := #[]) ?a ?b ?c ?d ?e ?walk ?f ?g ?i ?j
  case walk =>
    intro h₁ tk₁ rm st Z0 z0
    refine C.execs' ?_
    refine C.Assign ?_
    refine C.Call ?_
    walk_at "go"
    refine C.callT0 ?_
    refine C.newBya fun d h' hd hk' ho => ?_
    have hdl : h.objs.size ≤ d := Nat.le_trans st.step.size (Nat.le_of_eq hd.symm)
    have st := st.adopt hk' (Nat.le_of_eq hd.symm) ho
    walk_at "go"
    refine C.execs' ?_
    refine C.While ?_
    obtain st : St _ _ _ _ _ _ _ _ := by assumption
    refine C.whileLoop (fun n s => ∃ i h₁ m₁ tk₁ t₁, s = ⟨h₁, gs, dr, tk₁, os⟩ ∧ n = N - i ∧ i ≤ N ∧ St g h [] g h.objs.size m₁ [(d, bya (octD m i).toArray)] h₁ ∧ m₁ "number" = some (.int ((m / 8 ^ i : Nat) : Int) t₁) ∧ m₁ "digits" = some (.ref d)) ?turn N ⟨0, _, _, _, t, rfl, rfl, Nat.zero_le _, st, by rw [Nat.pow_zero, Nat.div_one]; walk_at "fr", by walk_at "fr"⟩
    case turn =>
      rintro n s ⟨i, h₁, m₁, tk₁, t₁, rfl, rfl, hi, st, m1, m2⟩
      walk_at "go"
      by_cases hiN : i < N
      case neg =>
        have e : i = N := by omega
        subst e
        first | ((with_reducible refine ifN ?hc ?_); (case hc => exact (by rw [hN]; decide))) | rw [if_neg (by rw [hN]; decide)]
        walk_at "go"
        refine baLen (st.at 0 rfl) (by simp [octD]; omega) fun _ _ => ?_
        walk_at "go"
        first | ((with_reducible refine ifN ?hc ?_); (case hc => exact (by simp [octD]; omega))) | rw [if_neg (by simp [octD]; omega)]
        walk_at "go"
        refine C.execs' ?_
        refine C.any ?_
        walk_at "go"
        refine baMeth (st.at 0 rfl) X.slot_bytearray_reverse X.type_bytearray_reverse ?_
        walk_at "go"
        refine baReverse st 0 rfl (by simp [octD]; omega) fun h' st => ?_
        walk_at "go"
        refine C.execs' ?_
        refine C.any ?_
        walk_at "go"
        refine byOfBa (st.at 0 rfl) (by simp [octD]; omega) fun _ _ => ?_
        walk_at "go"
        rw [List.reverse_toArray]
        walk_at "go"
        exact ret _ _ _ (st.step.mono (by simp)) (st.sub (List.nil_sublist _)).own
      case pos =>
        have hp := hN1 i hiN
        have hp' : decide (((m / 8 ^ i : Nat) : Int) > 0) = true := decide_eq_true (Int.ofNat_lt.mpr hp)
        first | ((with_reducible refine ifP ?hc ?_); (case hc => exact hp')) | rw [if_pos hp']
        first | ((with_reducible refine ifP ?hc ?_); (case hc => exact rfl)) | rw [if_pos rfl]
        refine C.execs' ?_
        refine C.Expr' ?_
        refine C.Method ?_
        walk_at "go"
        refine baMeth (st.at 0 rfl) X.slot_bytearray_append X.type_bytearray_append ?_
        refine C.callB ?_
        refine C.any ?_
        walk_at "go"
        have e8 : ((48 : Int) + ((m / 8 ^ i : Nat) : Int).fmod 8) = ((48 + m / 8 ^ i % 8 : Nat) : Int) := by
          rw [Int.fmod_eq_emod_of_nonneg _ (by decide)]
          simp
        rw [e8]
        refine C.append' (b := (octD m i).toArray) (st.at 0 rfl) (by omega) (by simp [octD]; omega) fun h' hs ho => ?_
        have st := st.upd 0 rfl hs ho
        walk_at "go"
        refine C.execs' ?_
        refine C.any ?_
        walk_at "go"
        have hle : m / 8 ^ i ≤ m := Nat.div_le_self _ _
        refine fdivI (by decide) (by omega) (by omega) fun _ _ => ?_
        walk_at "go"
        refine C.any (wpAny_execs_nil ?_)
        obtain st : St _ _ _ _ _ _ _ _ := by assumption
        have ef : (((m / 8 ^ i : Nat) : Int).fdiv 8) = ((m / 8 ^ (i + 1) : Nat) : Int) := by
          rw [Int.fdiv_eq_ediv_of_nonneg _ (by decide), Nat.pow_succ, ← Nat.div_div_eq_div_mul]
          rfl
        have eo : (octD m i).toArray.push (48 + m / 8 ^ i % 8).toUInt8 = (octD m (i + 1)).toArray := by
          rw [List.push_toArray, octD, octD, List.range_succ, List.map_append]
          rfl
        rw [ef, eo] at st
        exact ⟨N - (i + 1), by omega, i + 1, _, _, _, _, rfl, rfl, by omega, st, by walk_at "fr", by walk_at "fr"⟩
  all_goals walk_at "kr"

theorem eights_oct {m : Nat} {t : Tok} {Q : Value → Shared → Prop} {n : Nat} (CX : Cx w mg mb p loose g) (k : Sub g h) (rm : Rm A (n + 2)) (hm : m = 33188 ∨ m = 16384)
    (ret : ∀ h' tk' t', Step [] g h g h' → Own g h' [] → Q (.bytes (oct8 m).toArray t') ⟨h', gs, dr, tk', os⟩) :
    wpC (model prog w) A (call (.ref 325) [.int (m : Int) t]) Q ⟨h, gs, dr, tk, os⟩ := by
  rcases hm with rfl | rfl
  · exact eights_spec (m := 33188) (N := 6) CX k rm (by decide) (by intro i hi; revert i; decide) (by decide) (by decide) fun h' tk' t' a b => by
      rw [show (octD 33188 6).reverse = oct8 33188 by decide]; exact ret _ _ _ a b
  · exact eights_spec (m := 16384) (N := 5) CX k rm (by decide) (by intro i hi; revert i; decide) (by decide) (by decide) fun h' tk' t' a b => by
      rw [show (octD 16384 5).reverse = oct8 16384 by decide]; exact ret _ _ _ a b

theorem en_octets_spec {x : Addr} {e : En} {t1 t2 t3 : Tok} {Q : Value → Shared → Prop} {n : Nat} (CX : Cx w mg mb p loose g) (k : Sub g h) (rm : Rm A (n + 3)) (I : InstF g x 314 [("mode", .int e.mode t1), ("name", .bytes e.name.toArray t2), ("oid", .bytes e.oid.toArray t3)]) (ok : EnOk e)
    (ret : ∀ h' tk' t', Step [] g h g h' → Own g h' [] → Q (.bytes (enOct e).toArray t') ⟨h', gs, dr, tk', os⟩) :
    wpC (model prog w) A (call (.ref 311) [.ref x]) Q ⟨h, gs, dr, tk, os⟩ := by
  have z1 := ok.n.z
  have z2 := ok.z
  have z3 : (oct8 e.mode).length ≤ 6 := by unfold oct8; split <;> exact Nat.le_of_ble_eq_true rfl
  refine C.call' ?_
  refine C.enter (f := 311) (fd := fdOf w 311) (body := bodyOf w 311) (binds := [("self", .ref x)]) CX (Own.nil k) rm (oc := .type "function") (od := none) (osl := #[]) ?a ?b ?c ?d ?e ?walk ?f ?g ?i ?j
  case walk =>
    intro h₁ tk₁ rm st Z0 z0
    refine C.execs' ?_
    refine C.Return ?_
    refine C.BinOp ?_
    refine C.BinOp ?_
    refine C.BinOp ?_
    refine C.BinOp ?_
    refine C.Call ?_
    walk_at "go"
    with_reducible refine C.callK (by kernel_rfl!) ?_
    refine C.any ?_
    walk_at "go"
    refine eights_oct CX st.own.keep (by assumption) ok.m fun h' tk' t' sp ow => ?_
    have st := st.call (mu₁ := []) sp ow rfl
    walk_at "go"
    exact ret _ _ _ st.step st.own
  all_goals walk_at "kr"
end
end
-- F13
section
section
variable {prog : Program} {w : World} {mg mb : Str → Option Value} {p : Program} {loose : List Str} {A : Around} {E : Value → Shared → Prop}
  {g h : Heap} {mu : List (Addr × Obj)} {gs : Array GenState} {dr : Drawn} {tk : Nat} {os : OsState}
namespace C
/-- for target in v: body, by what holds between the turns, in codeC -/
theorem forI {gE hE : Heap} {S : List Addr} {L : Addr} {m : Str → Option Value} {Q : Flow → Shared → Prop} {target : Expr} {body : List Stmt} {env : Env} {v : Value} {n : Nat} {P : Nat → Value → Prop}
    (it : Iter prog w A v g n P) (st : St gE hE S g L m mu h) (J : Nat → Heap → (Str → Option Value) → List (Addr × Obj) → Prop) (j0 : J 0 g m mu)
    (turn : ∀ (i : Nat) (v : Value) (I : Addr) (g₁ h₁ : Heap) (m₁ : Str → Option Value) (mu₁ : List (Addr × Obj)) (tk₁ : Nat) (oI : Obj), i < n → P i v → J i g₁ m₁ mu₁ → Sub g g₁ → St gE hE S g₁ L m₁ ((I, oI) :: mu₁) h₁ →
      ∀ Z : Flow → Shared → Prop, (∀ f g₂ h₂ m₂ mu₂ tk₂, isNx f = true → Sub g₁ g₂ → St gE hE S g₂ L m₂ ((I, oI) :: mu₂) h₂ → J (i + 1) g₂ m₂ mu₂ → Z f ⟨h₂, gs, dr, tk₂, os⟩) → (∀ s, Q .next s → Z .brk s) → (∀ v s, Q (.ret v) s → Z (.ret v) s) →
      wpAny (model prog w) A (assign target env v) (fun _ s₂ => wpC (model prog w) A (execs body env) Z s₂) (fun _ _ => False) ⟨h₁, gs, dr, tk₁, os⟩)
    (done : ∀ g₁ h₁ m₁ mu₁ tk₁, J n g₁ m₁ mu₁ → Sub g g₁ → St gE hE S g₁ L m₁ mu₁ h₁ → Q .next ⟨h₁, gs, dr, tk₁, os⟩)
    (ht : ∀ (I : Addr) v, letOwnedTupleGo target (.ref I) v = pure ()) :
    wpAny (model prog w) A (pyIter v) (fun it s₂ => codeC (model prog w) A (.forLoop target it body [] env) Q s₂) (fun _ _ => False) ⟨h, gs, dr, tk, os⟩ := by
  refine it st fun I h tk fp Si oI W hfp hob h0 _ st => ?_
  refine forLoop (ForJ n Si gE hE S g L I gs dr os J) ?_ n
    ⟨0, g, h, m, mu, tk, oI, rfl, Nat.zero_le _, rfl, j0, Sub.rfl, st, h0⟩
  rintro k s' ⟨i, g₁, h₁, m₁, mu₁, tk₁, oI, rfl, hi, rfl, j, sg, st₁, si⟩
  by_cases hlt : i < n
  · refine W.item i _ _ _ hlt si fun v h₂ tk₂ hp si₂ hk => ?_
    dsimp only
    rw [ht]
    refine wpAny_pure ?_
    obtain ⟨o', ho'⟩ := hob _ _ si₂
    have st₂ : St gE hE S g₁ L m₁ ((I, o') :: mu₁) h₂ := st₁.move (fun b x q e => hk b x (by simpa using q) e) ho'
    refine wpAny_mono (turn i v I g₁ h₂ m₁ mu₁ tk₂ o' hlt hp j sg st₂ (fun f s₃ => match f with
        | .next | .cont => ∃ g₂ h₂ m₂ mu₂ tk₂, s₃ = ⟨h₂, gs, dr, tk₂, os⟩ ∧ Sub g₁ g₂ ∧ St gE hE S g₂ L m₂ ((I, o') :: mu₂) h₂ ∧ J (i + 1) g₂ m₂ mu₂
        | .brk => Q .next s₃
        | .ret v => Q (.ret v) s₃) (fun f g₂ h₂ m₂ mu₂ tk₂ hf x y z => by
          cases f with
          | next => exact ⟨g₂, h₂, m₂, mu₂, tk₂, rfl, x, y, z⟩
          | cont => exact ⟨g₂, h₂, m₂, mu₂, tk₂, rfl, x, y, z⟩
          | brk => cases hf
          | ret v => cases hf) (fun _ x => x) fun _ _ x => x) (fun _ s₃ q => mono q fun f s₄ z => ?_) fun _ _ e => e
    have fin : (∃ g₂ h₂ m₂ mu₂ tk₂, s₄ = ⟨h₂, gs, dr, tk₂, os⟩ ∧ Sub g₁ g₂ ∧ St gE hE S g₂ L m₂ ((I, o') :: mu₂) h₂ ∧ J (i + 1) g₂ m₂ mu₂) →
        ∃ k', k' < n - i ∧ ForJ n Si gE hE S g L I gs dr os J k' s₄ := by
      rintro ⟨g₂, h₃, m₂, mu₂, tk₃, rfl, sg₂, st₃, j₂⟩
      refine ⟨n - (i + 1), by omega, i + 1, g₂, h₃, m₂, mu₂, tk₃, o', rfl, hlt, rfl, j₂, sg.trans sg₂, st₃, W.frame _ _ _ si₂ fun b hb o e => ?_⟩
      rcases hfp b hb with rfl | ⟨x, hx⟩
      · rw [ho'] at e; cases e
        exact (st₃.own.mem _ (.head _)).1
      · have h1 := st₂.own.keep b x (sg b x hx)
        rw [h1] at e; cases e
        exact st₃.own.keep b _ (sg₂ b _ (sg b _ hx))
    cases f with
    | next => exact fin z
    | cont => exact fin z
    | brk => exact z
    | ret v => exact z
  · have e : i = n := by omega
    subst e
    refine W.done _ _ _ si fun h₂ tk₂ hk => ?_
    exact done g₁ h₂ m₁ mu₁ tk₂ j sg (st₁.moveD fun b x q e => hk b x (by simpa using q) e)
end C

theorem tr_octets_spec {x l : Addr} {vs : List Value} {nl : Nat} {es : List En} {Q : Value → Shared → Prop} {n : Nat} (CX : Cx w mg mb p loose g) (k : Sub g h) (rm : Rm A (n + 4)) (ok : EsOk es)
    (I : InstF g x 363 [("entries", .ref l)]) (hl : g.get? l = some (lst vs.toArray nl)) (hv : All2 (IsEn g) vs es) (hz : (es.map enOct).flatten.length ≤ 900)
    (ret : ∀ h' tk' t', Step [] g h g h' → Own g h' [] → Q (.bytes (es.map enOct).flatten.toArray t') ⟨h', gs, dr, tk', os⟩) :
    wpC (model prog w) A (call (.ref 353) [.ref x]) Q ⟨h, gs, dr, tk, os⟩ := by
  refine C.call' ?_
  refine C.enter (f := 353) (fd := fdOf w 353) (body := bodyOf w 353) (binds := [("self", .ref x)]) CX (Own.nil k) rm (oc := .type "function") (od := none) (osl := #[]) ?a ?b ?c ?d ?e ?walk ?f ?g ?i ?j
  case walk =>
    intro h₁ tk₁ rm st Z0 z0
    refine C.execs' ?_
    refine C.any ?_
    walk_at "go"
    refine C.execs' ?_
    refine C.For ?_
    walk_at "go"
    rename_i d h2 hd st0 h3 tk3 st _
    refine C.forI (Iter.list rm.hh (isl hl)) st (fun i g₁ m₁ mu₁ => g₁ = g ∧ ∃ ys n, mu₁ = [(d, lst ys.toArray n)] ∧ BysAre ys ((es.take i).map enOct) ∧ m₁ "parts" = some (.ref d)) ⟨rfl, [], 0, rfl, .nil, by walk_at "fr"⟩ ?turn ?done ?ht
    case ht => intro I v; rfl
    case done =>
      rintro g₁ h₁ m₁ mu₁ tk₁ ⟨rfl, ys, n, rfl, hy, m1⟩ sg st
      refine C.execs' ?_
      refine C.any ?_
      walk_at "go"
      have e : (es.take vs.toArray.size) = es := List.take_of_length_le (by have := hv.length; simp; omega)
      rw [e] at hy
      refine byJoin (st.at 0 rfl) hy (by omega) (by have := ok.z; simp; omega) fun _ _ => ?_
      walk_at "go"
      exact ret _ _ _ st.step (st.sub (List.nil_sublist _)).own
    case turn =>
      intro i v I g₁ h₁ m₁ mu₁ tk₁ oI hi hp zj sg st Z zn zb zr
      obtain ⟨rfl, ys, n, rfl, hy, m1⟩ := zj
      have hlen : vs.length = es.length := hv.length
      have hi' : i < es.length := by simpa [hlen] using hi
      have he := List.getElem?_eq_getElem hi'
      generalize es[i] = e at he
      obtain ⟨v', hv', Ie⟩ := hv.get he
      have hp : vs[i]? = some v := by simpa using hp
      rw [hp] at hv'
      cases hv'
      obtain ⟨x, t1, t2, t3, rfl, Ie⟩ := Ie
      walk_at "go"
      refine C.execs' ?_
      refine C.Expr' ?_
      refine C.Method ?_
      walk_at "go"
      refine C.callB ?_
      refine C.SplCons ?_
      refine C.Method ?_
      walk_at "go"
      obtain st : St _ _ _ _ _ _ _ _ := by assumption
      refine C.callK0 (by kernel_rfl!) (CX.X.keeps st.own.keep) ?_
      refine en_octets_spec CX st.own.keep (by assumption) Ie (ok.all e (List.mem_of_getElem? he)) fun h' tk' t' sp ow => ?_
      have st := st.call (mu₁ := []) sp ow rfl
      refine C.SplNil ?_
      refine C.any ?_
      refine lAppend st 1 rfl (by rw [hy.length]; have := ok.z; simp; omega) fun h' st => ?_
      refine C.any (wpAny_execs_nil ?_)
      refine zn _ g₁ _ _ _ _ rfl Sub.rfl st ⟨rfl, _, _, rfl, ?_, by walk_at "fr"⟩
      rw [List.take_add_one, he, List.map_append]
      exact hy.snoc
  all_goals walk_at "kr"

theorem write_tree_spec {S kn kd : Addr} {o1 o2 : Obj} {items : List Thing} {x l : Addr} {vs : List Value} {nl : Nat} {es : List En} {Q : Value → Shared → Prop} {n : Nat} (CX : Cx w mg mb p loose g) (rm : Rm A (n + 6)) (ow : Own g h [(kn, o1), (kd, o2)])
    (I : StoreAt g S kn kd) (F : StF prog w g kn kd o1 o2 items) (hi : items.length ≤ 50000) (ok : EsOk es)
    (Ix : InstF g x 363 [("entries", .ref l)]) (hl : g.get? l = some (lst vs.toArray nl)) (hv : All2 (IsEn g) vs es) (hz : (es.map enOct).flatten.length ≤ 900)
    (ret : ∀ o1' o2' g' h' tk' t', Step [kn, kd] g h g' h' → Own g' h' [(kn, o1'), (kd, o2')] → StF prog w g' kn kd o1' o2' (pushT items (.tree es)) → Q (.bytes (idOf (pushT items (.tree es)) (.tree es)).toArray t') ⟨h', gs, dr, tk', os⟩) :
    wpC (model prog w) A (call (.ref 423) [.ref S, .ref x]) Q ⟨h, gs, dr, tk, os⟩ := by
  have I' := I
  obtain ⟨H, t0, I1, I2⟩ := I
  refine C.call' ?_
  refine C.enter (f := 423) (fd := fdOf w 423) (body := bodyOf w 423) (binds := [("self", .ref S), ("tree", .ref x)]) CX ow rm (oc := .type "function") (od := none) (osl := #[]) ?a ?b ?c ?d ?e ?walk ?f ?g ?i ?j
  case walk =>
    intro h₁ tk₁ rm st Z0 z0
    refine C.execs' ?_
    refine C.any ?_
    walk_at "go"
    refine check_tree_spec CX st.own.keep (by assumption) ok Ix hl hv fun h' tk' sp ow => ?_
    have st := st.call (mu₁ := []) sp ow rfl
    walk_at "go"
    refine C.execs' ?_
    refine C.Return ?_
    refine C.Method ?_
    walk_at "go"
    with_reducible refine C.callK (by kernel_rfl!) ?_
    refine C.SplCons ?_
    refine C.any ?_
    walk_at "go"
    refine C.SplCons ?_
    refine C.Method ?_
    walk_at "go"
    refine C.callK0 (by kernel_rfl!) (CX.X.keeps st.own.keep) ?_
    refine tr_octets_spec CX st.own.keep (by assumption) ok Ix hl hv hz fun h' tk' t' sp ow => ?_
    have st := st.call (mu₁ := []) sp ow rfl
    refine C.any ?_
    walk_at "go"
    refine C.any ?_
    refine keep_spec (th := .tree es) CX (by assumption) st.own I' F hi hz (fun g' y n t' sg hg => ⟨y, n, _, _, rfl, hg, x, l, vs, nl, rfl, Ix.sub sg, sg _ _ hl, hv.mono fun _ _ q => q.sub sg⟩) fun o1' o2' g' h' tk' t' sp ow F' => ?_
    have st := St.call (mu₁ := [(kn, o1), (kd, o2)]) (mu₂ := []) st sp ow rfl
    walk_at "go"
    exact ret _ _ _ _ _ _ st.step st.own F'
  all_goals walk_at "kr"
end
end
-- S0
section
/-- the tree's answer, when the questions are answered by lt -/
noncomputable def krun {α : Type} (lt : Nat → Nat → Bool) : KasT α → α
  | .ret a => a
  | .ask i j k => krun lt (k (lt i j))
/-- all questions are below N, and each end has P -/
noncomputable def ksafe {α : Type} (N : Nat) (P : α → Prop) : KasT α → Prop
  | .ret a => P a
  | .ask i j k => i < N ∧ j < N ∧ ∀ b, ksafe N P (k b)
theorem ksafe_mono {α : Type} {N : Nat} {P P' : α → Prop} (h : ∀ a, P a → P' a) : ∀ {t : KasT α}, ksafe N P t → ksafe N P' t
  | .ret _, q => h _ q
  | .ask _ _ _, ⟨a, b, c⟩ => ⟨a, b, fun x => ksafe_mono h (c x)⟩
theorem ksafe_bind {α β : Type} {N : Nat} {P : β → Prop} {f : α → KasT β} : ∀ {t : KasT α}, ksafe N (fun a => ksafe N P (f a)) t → ksafe N P (t.bind f)
  | .ret _, q => q
  | .ask _ _ _, ⟨a, b, c⟩ => ⟨a, b, fun x => ksafe_bind (c x)⟩
theorem ksafe_run {α : Type} {N : Nat} {P : α → Prop} {lt : Nat → Nat → Bool} : ∀ (t : KasT α), ksafe N P t → P (krun lt t)
  | .ret _, q => q
  | .ask i j k, ⟨_, _, c⟩ => ksafe_run (k (lt i j)) (c (lt i j))
theorem kasWp_run {α : Type} {N : Nat} {P : α → Prop} {lt : Nat → Nat → Bool} {cmp : Nat → Nat → (Bool → Shared → Prop) → Shared → Prop} {I : Shared → Prop} {Q : α → Shared → Prop}
    (hc : ∀ i j C s, i < N → j < N → I s → (∀ s', I s' → C (lt i j) s') → cmp i j C s) : ∀ {t : KasT α} {s : Shared}, ksafe N P t → I s → (∀ s', I s' → Q (krun lt t) s') → t.kasWp cmp Q s
  | .ret _, s, _, hI, hq => hq s hI
  | .ask i j k, s, ⟨a, b, c⟩, hI, hq => hc i j _ s a b hI fun s' hI' => kasWp_run hc (c _) hI' hq

noncomputable def OkP (N : Nat) (p : Array Nat) : Prop := p.toList.Perm (List.range N)
theorem OkP.getD {N : Nat} {p : Array Nat} (h : OkP N p) (hN : 0 < N) (i : Nat) : p.getD i 0 < N := by
  unfold Array.getD
  split
  · rename_i q
    have : p[i] ∈ p.toList := by simp
    exact List.mem_range.mp (h.mem_iff.mp this)
  · exact hN
theorem OkP.rev {N : Nat} {p : Array Nat} (h : OkP N p) (i j : Nat) : OkP N (kas_rev p i j) := ((mirror_perm p i j _).toList).trans h
theorem OkP.bub {N : Nat} {p : Array Nat} (h : OkP N p) (i j : Nat) : OkP N (bubble p i j) := ((bubble_perm p i j).toList).trans h
section
variable {N : Nat} (hN : 0 < N)
include hN
theorem safe_asc {p : Array Nat} (h : OkP N p) : ∀ f n, ksafe N (fun _ => True) (kas_asc p f n)
  | 0, n => trivial
  | f + 1, n => ⟨h.getD hN _, h.getD hN _, fun b => by
    show ksafe N _ (if b = true then KasT.ret n else kas_asc p f (n + 1))
    split
    · trivial
    · exact safe_asc h f (n + 1)⟩
theorem safe_desc : ∀ f p n q, OkP N p → ksafe N (fun r : Array Nat × Nat × Nat => OkP N r.1) (kas_desc f p n q)
  | 0, p, n, q, h => h
  | f + 1, p, n, q, h => ⟨h.getD hN _, h.getD hN _, fun b => by
    show ksafe N _ (if b = true then (if q > 0 then kas_desc f (kas_rev p (n - (q + 1)) n) (n + 1) 0 else kas_desc f p (n + 1) 0) else .ask (p.getD (n - 1) 0) (p.getD n 0) fun d => if d = true then .ret (p, n, q) else kas_desc f p (n + 1) (q + 1))
    split
    · split
      · exact safe_desc f _ _ _ (h.rev _ _)
      · exact safe_desc f _ _ _ h
    · refine ⟨h.getD hN _, h.getD hN _, fun d => ?_⟩
      show ksafe N _ (if d = true then .ret (p, n, q) else kas_desc f p (n + 1) (q + 1))
      split
      · exact h
      · exact safe_desc f _ _ _ h⟩
theorem safe_tail3 {p : Array Nat} (h : OkP N p) (n m : Nat) : ksafe N (fun r : Nat × Array Nat => OkP N r.2) (kas_tail3 n m p) := by
  unfold kas_tail3
  exact ksafe_bind (ksafe_mono (fun a _ => h.rev _ _) (safe_asc hN (h.rev _ _) _ _))
theorem safe_descPart {p : Array Nat} (h : OkP N p) (n m : Nat) : ksafe N (fun r : Nat × Array Nat => OkP N r.2) (kas_descPart n m p) := by
  unfold kas_descPart
  refine ksafe_bind (ksafe_mono (fun r hr => ?_) (safe_desc hN _ _ _ _ h))
  show ksafe N _ (if r.2.2 > 0 then _ else _)
  split
  · exact safe_tail3 hN (hr.rev _ _) _ _
  · exact safe_tail3 hN hr _ _
theorem safe_count {p : Array Nat} (h : OkP N p) (m : Nat) : ksafe N (fun r : Nat × Array Nat => OkP N r.2) (kas_count m p) := by
  unfold kas_count
  refine ksafe_bind (ksafe_mono (fun n _ => ?_) (safe_asc hN h _ _))
  split
  · exact h
  · split
    · refine ⟨h.getD hN _, h.getD hN _, fun c => ?_⟩
      dsimp only
      split
      · exact h
      · exact safe_descPart hN (h.rev _ _) _ _
    · exact safe_descPart hN h _ _
theorem safe_place {p : Array Nat} (h : OkP N p) (k : Nat) : ∀ f l r, ksafe N (fun _ => True) (kas_place p k f l r)
  | 0, l, r => trivial
  | f + 1, l, r => by
    unfold kas_place
    split
    · trivial
    · refine ⟨h.getD hN _, h.getD hN _, fun c => ?_⟩
      dsimp only
      split
      · exact safe_place h k f _ _
      · exact safe_place h k f _ _
theorem safe_bin : ∀ f p k, OkP N p → ksafe N (OkP N) (kas_bin f p k)
  | 0, p, k, h => h
  | f + 1, p, k, h => by
    unfold kas_bin
    exact ksafe_bind (ksafe_mono (fun l _ => safe_bin f _ _ (h.bub _ _)) (safe_place hN h k k 0 k))
theorem safe_sort : ksafe N (OkP N) (kas_sort N) := by
  unfold kas_sort
  refine ksafe_bind (ksafe_mono (fun r hr => ?_) (safe_count hN (p := List.toArray (List.range N)) (by unfold OkP; simp) _))
  show ksafe N _ (if r.1 < N then _ else _)
  split
  · exact safe_bin hN _ _ _ hr
  · exact hr
end
/-- the result is in order, for two, three and four, and keys below four -/
noncomputable def ordOk (p : List Nat) (r : Nat → Nat) : Bool := ((p.map r).zip ((p.map r).drop 1)).all fun x => decide (x.1 ≤ x.2)
noncomputable def rk (l : List Nat) (i : Nat) : Nat := l.getD i 0
theorem sort2 : ∀ a, a < 4 → ∀ b, b < 4 → ordOk (krun (fun i j => decide (rk [a, b] i < rk [a, b] j)) (kas_sort 2)).toList (rk [a, b]) = true := by decide +kernel
theorem sort3 : ∀ a, a < 4 → ∀ b, b < 4 → ∀ c, c < 4 → ordOk (krun (fun i j => decide (rk [a, b, c] i < rk [a, b, c] j)) (kas_sort 3)).toList (rk [a, b, c]) = true := by decide +kernel
theorem sort4 : ∀ a, a < 4 → ∀ b, b < 4 → ∀ c, c < 4 → ∀ d, d < 4 → ordOk (krun (fun i j => decide (rk [a, b, c, d] i < rk [a, b, c, d] j)) (kas_sort 4)).toList (rk [a, b, c, d]) = true := by decide +kernel
end
-- S1
section
section
variable {gE hE g h h' : Heap} {S : List Addr} {L d : Addr} {o : Obj} {m : Str → Option Value} {mu : List (Addr × Obj)}
theorem St.moveO (st : St gE hE S g L m mu h) (ns : h'.Ns L m) (k : ∀ b x, b ≠ L → h.get? b = some x → h'.get? b = some x) : St gE hE S g L m mu h' := by
  refine ⟨⟨fun b x e => k b x (fun q => by rw [q, st.gl] at e; cases e) (st.own.keep b x e), fun p hp => ⟨k _ _ (st.ml p hp).1 (st.own.mem p hp).1, (st.own.mem p hp).2⟩, st.own.nd⟩,
    ⟨st.step.sub, st.step.old, fun b x e n => k b x (fun q => ?_) (st.step.frame b x e n), Nat.le_of_lt (Nat.lt_of_le_of_lt st.lo ns.lt)⟩, ns, st.gl, st.lo, st.ml⟩
  rw [q] at e
  exact absurd (Heap.lt_size e) (Nat.not_lt.mpr st.lo)
theorem St.addO (st : St gE hE S g L m mu h) (ho : h.get? d = some o) (hd : hE.objs.size ≤ d) (hL : d ≠ L) (hg : g.get? d = none) (hm : ∀ p ∈ mu, p.1 ≠ d) : St gE hE S g L m ((d, o) :: mu) h := by
  refine ⟨⟨st.own.keep, fun p hp => ?_, ?_⟩, st.step, st.ns, st.gl, st.lo, fun p hp => ?_⟩
  · rcases List.mem_cons.mp hp with rfl | hp
    · exact ⟨ho, hg⟩
    · exact st.own.mem p hp
  · rw [List.map_cons, List.nodup_cons]
    refine ⟨fun q => ?_, st.own.nd⟩
    obtain ⟨p, hp, e⟩ := List.mem_map.mp q
    exact hm p hp e
  · rcases List.mem_cons.mp hp with rfl | hp
    · exact ⟨hL, .inr hd⟩
    · exact st.ml p hp
end
section
variable {prog : Program} {w : World} {A : Around} {E : Value → Shared → Prop}
  {gE hE g h : Heap} {S : List Addr} {L : Addr} {m : Str → Option Value} {mu : List (Addr × Obj)} {gs : Array GenState} {dr : Drawn} {tk : Nat} {os : OsState}

/-- the ledger of a heap's other objects, as the library's sort wants it -/
theorem newsO {h : Heap} {L x : Addr} : News {} L h (others h x L) := fun q hq => ⟨(mem_others.mp hq).2.2, (mem_others.mp hq).2.1, rfl⟩
theorem frO {h : Heap} {L : Addr} {m : Str → Option Value} (ns : h.Ns L m) : Fr {} L h m := ⟨ns, (fun b y q => by cases q), Nat.zero_le _⟩

theorem keysInd {kS D : Addr} {f : Value} {vs : List Value} {e1 : Nat} {KeyP : Heap → Nat → Value → Prop} {A' : Around} {Fin : List Value → Nat → Shared → Prop}
    (mono : ∀ g₁ g₂ i k, Sub g₁ g₂ → KeyP g₁ i k → KeyP g₂ i k)
    (turn : ∀ i v g₁ h₁ tk₁, vs[i]? = some v → Sub g g₁ → Sub g₁ h₁ → wpAny (model prog w) A' (call f [v]) (fun k s' => ∃ g₂ h₂ tk₂, s' = ⟨h₂, gs, dr, tk₂, os⟩ ∧ Step [] g₁ h₁ g₂ h₂ ∧ Own g₂ h₂ [] ∧ KeyP g₂ i k) (fun _ _ => False) ⟨h₁, gs, dr, tk₁, os⟩)
    (fin : ∀ g₁ h₁ ks e tk₁, Sub g g₁ → ks.length = vs.length → (∀ i k, ks[i]? = some k → KeyP g₁ i k) → St gE hE S g₁ L m ((kS, lst ks.toArray e) :: (D, lst #[] e1) :: mu) h₁ → Fin ks e ⟨h₁, gs, dr, tk₁, os⟩) :
    ∀ (r ks done : List Value) (e : Nat) (g₁ h₁ : Heap) (tk₁ : Nat), vs = done ++ r → ks.length = done.length → Sub g g₁ → (∀ i k, ks[i]? = some k → KeyP g₁ i k) → St gE hE S g₁ L m ((kS, lst ks.toArray e) :: (D, lst #[] e1) :: mu) h₁ →
      KatKeys prog w A' {} L m kS f Fin r ks e ⟨h₁, gs, dr, tk₁, os⟩
  | [], ks, done, e, g₁, h₁, tk₁, hv, hl, sg, hk, st => by
    refine KatKeys.nil (fin g₁ h₁ ks e tk₁ sg ?_ hk st)
    rw [hv, hl]; simp
  | v :: r, ks, done, e, g₁, h₁, tk₁, hv, hl, sg, hk, st => by
    refine KatKeys.cons (wpAny_mono (turn done.length v g₁ h₁ tk₁ ?_ sg st.own.keep) (fun k s' hq => ?_) fun _ _ x => x)
    · rw [hv]; simp
    · obtain ⟨g₂, h₂, tk₂, rfl, sp, ow, kp⟩ := hq
      have st₂ := St.call (mu₁ := []) (mu₁' := []) st sp ow rfl
      have nk := st₂.own.mem (kS, lst ks.toArray e) (.head _)
      have nl := st₂.ml (kS, lst ks.toArray e) (.head _)
      refine KatBack.intro (news := (kS, lst ks.toArray e) :: others h₂ kS L) (g := fun o => (kS, o) :: others h₂ kS L) (frO st₂.ns) (fun q hq => ?_) (.head fun q hq => (mem_others.mp hq).1) fun h₃ c F₃ N₃ => ?_
      · rcases List.mem_cons.mp hq with rfl | hq
        · exact ⟨nk.1, nl.1, rfl⟩
        · exact newsO q hq
      · refine keysInd mono turn fin r (ks ++ [k]) (done ++ [v]) c g₂ h₃ tk₂ (by rw [hv]; simp) (by simp [hl]) (sg.trans sp.sub) (fun i k' hk' => ?_) ?_
        · rcases Nat.lt_or_ge i ks.length with q | q
          · rw [List.getElem?_append_left q] at hk'
            exact mono _ _ _ _ sp.sub (hk i k' hk')
          · rw [List.getElem?_append_right q] at hk'
            cases hj : i - ks.length with
            | zero =>
              rw [hj] at hk'; simp at hk'; subst hk'
              have : i = done.length := by omega
              rw [this]; exact kp
            | succ j => rw [hj] at hk'; simp at hk'
        · exact st₂.moveN 0 rfl F₃.ns (fun b x n1 n2 q => (N₃ (b, x) (.tail _ (mem_others.mpr ⟨n1, n2, q⟩))).1) (N₃ _ (.head _)).1

/-- sorted(l, key=f), two items or more -/
theorem sortK {l : Addr} {vs : List Value} {nl : Nat} {f : Value} {kw : List (Str × Value)} {KeyP : Heap → Nat → Value → Prop} {lt : Nat → Nat → Bool} {Q : Value → Shared → Prop}
    (st : St gE hE S g L m mu h) (hl : h.get? l = some (lst vs.toArray nl)) (hlo : hE.objs.size ≤ l) (hlL : l ≠ L) (h2 : 2 ≤ vs.length) (h64 : vs.length < 64)
    (ha1 : argsOk "sorted" ⟨[.ref l], kw⟩) (ha2 : ∀ x, argsOk "list.sort" ⟨[.ref x], kw⟩) (ht : ∀ x, Builtin.«list.sort» ⟨[.ref x], kw⟩ = ksk_tree x f false)
    (mono : ∀ g₁ g₂ i k, Sub g₁ g₂ → KeyP g₁ i k → KeyP g₂ i k)
    (turn : ∀ i v g₁ h₁ tk₁, vs[i]? = some v → Sub g g₁ → Sub g₁ h₁ → wpAny (model prog w) A.in1.in1 (call f [v]) (fun k s' => ∃ g₂ h₂ tk₂, s' = ⟨h₂, gs, dr, tk₂, os⟩ ∧ Step [] g₁ h₁ g₂ h₂ ∧ Own g₂ h₂ [] ∧ KeyP g₂ i k) (fun _ _ => False) ⟨h₁, gs, dr, tk₁, os⟩)
    (asks : ∀ g₁ h₁ ks tk₁ (Q : SortKind → Shared → Prop), Sub g g₁ → Sub g₁ h₁ → ks.length = vs.length → (∀ i k, ks[i]? = some k → KeyP g₁ i k) →
      (∀ κ tk₂, (∀ i j C tk₃, i < vs.length → j < vs.length → (∀ tk', C (lt i j) ⟨h₁, gs, dr, tk', os⟩) → kas_ask prog w A.in1.in1 κ ks i j C ⟨h₁, gs, dr, tk₃, os⟩) → Q κ ⟨h₁, gs, dr, tk₂, os⟩) →
      wpAny (model prog w) A.in1.in1 (keyKind' (List.toArray ks)) Q (fun _ _ => False) ⟨h₁, gs, dr, tk₁, os⟩)
    (hq : ∀ D g' h' c tk', Sub g g' → hE.objs.size ≤ D → St gE hE S g' L m ((D, lst ((krun lt (kas_sort vs.length)).toList.map fun i => vs.getD i .none).toArray c) :: mu) h' → Q (.ref D) ⟨h', gs, dr, tk', os⟩) :
    wpAny (model prog w) A (call (.builtin "sorted") [.ref l] kw) Q E ⟨h, gs, dr, tk, os⟩ := by
  refine kat_sortedK (s := ⟨h, gs, dr, tk, os⟩) (b := false) (f := f) (h₀ := {}) (L := L) (m := m) (news := others h L L) (frO st.ns) newsO (isl hl) h2 h64 ha1 ha2 ht fun D kS e1 h' F' N' hDk hD => ?_
  have keep : ∀ b x, b ≠ L → h.get? b = some x → h'.get? b = some x := fun b x n e => (N' (b, x) (.tail _ (.tail _ (mem_others.mpr ⟨n, n, e⟩)))).1
  have lD : ∀ b x, b ≠ L → h.get? b = some x → b < D := fun b x n e => hD (b, x) (mem_others.mpr ⟨n, n, e⟩)
  have nD := N' (D, seqObj "list" #[] e1) (.tail _ (.head _))
  have nk := N' (kS, seqObj "list" #[] 0) (.head _)
  have hlD := lD l _ hlL hl
  have st1 : St gE hE S g L m ((D, lst #[] e1) :: mu) h' := by
    refine (st.moveO F'.ns keep).addO nD.1 (Nat.le_of_lt (Nat.lt_of_le_of_lt hlo hlD)) nD.2.1 ?_ fun p hp e => ?_
    · cases q : g.get? D with
      | none => rfl
      | some x => exact absurd (lD _ _ nD.2.1 (st.own.keep _ _ q)) (Nat.lt_irrefl _)
    · have := lD _ _ (st.ml p hp).1 (st.own.mem p hp).1
      rw [e] at this
      exact Nat.lt_irrefl _ this
  have st2 : St gE hE S g L m ((kS, lst #[] 0) :: (D, lst #[] e1) :: mu) h' := by
    refine st1.addO nk.1 (Nat.le_of_lt (Nat.lt_trans (Nat.lt_of_le_of_lt hlo hlD) hDk)) nk.2.1 ?_ fun p hp e => ?_
    · cases q : g.get? kS with
      | none => rfl
      | some x => exact absurd (Nat.lt_trans (lD _ _ nk.2.1 (st.own.keep _ _ q)) hDk) (Nat.lt_irrefl _)
    · rcases List.mem_cons.mp hp with rfl | hp
      · exact Nat.ne_of_lt hDk e
      · have := Nat.lt_trans (lD _ _ (st.ml p hp).1 (st.own.mem p hp).1) hDk
        rw [e] at this
        exact Nat.lt_irrefl _ this
  refine keysInd mono turn (fun g₁ h₁ ks e tk₁ sg hkl hk st₁ => ?_) vs [] [] 0 g h' _ rfl rfl Sub.rfl (fun i k e => by simp at e) st2
  refine asks g₁ h₁ ks tk₁ _ sg st₁.own.keep hkl hk fun κ tk₂ ask => ?_
  refine kasWp_run (N := vs.length) (P := OkP vs.length) (lt := lt) (I := fun s => ∃ tk', s = ⟨h₁, gs, dr, tk', os⟩) (fun i j C s hi hj hs hc => ?_) (safe_sort (by omega)) ⟨tk₂, rfl⟩ ?_
  · obtain ⟨tk', rfl⟩ := hs
    exact ask i j C tk' hi hj fun tk' => hc _ ⟨tk', rfl⟩
  · rintro s' ⟨tk₃, rfl⟩
    have k0 := st₁.own.mem (kS, lst ks.toArray e) (.head _)
    have k1 := st₁.ml (kS, lst ks.toArray e) (.head _)
    refine KatFin.intro (news := (kS, lst ks.toArray e) :: others h₁ kS L) (g := fun o => (kS, o) :: others h₁ kS L) (frO st₁.ns) (fun q hq => ?_) (.head fun q hq => (mem_others.mp hq).1) fun h₂ c F₂ N₂ => ?_
    · rcases List.mem_cons.mp hq with rfl | hq
      · exact ⟨k0.1, k1.1, rfl⟩
      · exact newsO q hq
    · have st₂ : St gE hE S g₁ L m ((D, lst #[] e1) :: mu) h₂ := (st₁.moveN 0 rfl (o' := lst #[] c) F₂.ns (fun b x n1 n2 q => (N₂ (b, x) (.tail _ (mem_others.mpr ⟨n1, n2, q⟩))).1) (N₂ _ (.head _)).1).sub (List.sublist_cons_self _ _)
      have d0 := st₂.own.mem (D, lst #[] e1) (.head _)
      have d1 := st₂.ml (D, lst #[] e1) (.head _)
      refine KasFin.intro (news := (D, lst #[] e1) :: others h₂ D L) (g := fun o => (D, o) :: others h₂ D L) (frO st₂.ns) (fun q hq => ?_) (.head fun q hq => (mem_others.mp hq).1) fun h₃ c3 F₃ N₃ => ?_
      · rcases List.mem_cons.mp hq with rfl | hq
        · exact ⟨d0.1, d1.1, rfl⟩
        · exact newsO q hq
      · refine hq D g₁ h₃ c3 tk₃ sg (Nat.le_of_lt (Nat.lt_of_le_of_lt hlo hlD)) ?_
        exact st₂.moveN 0 rfl F₃.ns (fun b x n1 n2 q => (N₃ (b, x) (.tail _ (mem_others.mpr ⟨n1, n2, q⟩))).1) (N₃ _ (.head _)).1
end
end
-- S2
section
namespace X
theorem slot_bytes_lt : Slot "bytes" "__lt__" "bytes.__lt__" :=
  .of (owner := "bytes") (n := "__lt__") (by rw [typeLookup_type, builtinLookup_eq_fast]; kernel_rfl) (by decide +kernel) (by decide +kernel) (by decide +kernel)
    (by first | exact .inl (by decide +kernel) | exact .inr (by decide +kernel)) (by rw [isSubtype_type]; kernel_rfl)
theorem entry_bytes_lt : entryFor table "bytes.__lt__" = some Builtin.«bytes.__lt__» := by first | exact entryFor_of_tree (by kernel_rfl) | exact entryFor_of_fast (by kernel_rfl)
theorem args_bytes_lt_2 (a b : Value) : argsOk "bytes.__lt__" ⟨[a, b], []⟩ := by
  unfold argsOk; rw [signature?_of (id := "bytes.__lt__") (n := ['_', '_', 't', 'l', '_', '_']) (o := ['s', 'e', 't', 'y', 'b']) (by kernel_rfl) owner_bytes]; kernel_rfl
end X
theorem u8_tri (a b : UInt8) : a < b ∨ a = b ∨ b < a := by
  rcases Nat.lt_trichotomy a.toNat b.toNat with h | h | h
  · exact .inl (UInt8.lt_iff_toNat_lt.mpr h)
  · exact .inr (.inl (UInt8.toNat_inj.mp h))
  · exact .inr (.inr (UInt8.lt_iff_toNat_lt.mpr h))
noncomputable abbrev ord := Builtin.Bytes.order
theorem ord_swap : ∀ (x y : BY), ord y x = (ord x y).swap
  | [], [] => rfl
  | [], _ :: _ => rfl
  | _ :: _, [] => rfl
  | a :: x, b :: y => by
    show (if b < a then Ordering.lt else if b > a then .gt else ord y x) = (if a < b then Ordering.lt else if a > b then .gt else ord x y).swap
    rcases u8_tri a b with h | h | h
    · rw [if_neg (UInt8.lt_asymm h), if_pos h, if_pos h]; rfl
    · subst h
      rw [if_neg (UInt8.lt_irrefl a), if_neg (UInt8.lt_irrefl a), if_neg (UInt8.lt_irrefl a), if_neg (UInt8.lt_irrefl a)]
      exact ord_swap x y
    · rw [if_pos h, if_neg (UInt8.lt_asymm h), if_pos h]; rfl
theorem ord_eq : ∀ (x y : BY), ord x y = .eq → x = y
  | [], [], _ => rfl
  | [], _ :: _, h => by cases h
  | _ :: _, [], h => by cases h
  | a :: x, b :: y, h => by
    have h : (if a < b then Ordering.lt else if a > b then .gt else ord x y) = .eq := h
    rcases u8_tri a b with q | q | q
    · rw [if_pos q] at h; cases h
    · subst q
      rw [if_neg (UInt8.lt_irrefl a), if_neg (UInt8.lt_irrefl a)] at h
      rw [ord_eq x y h]
    · rw [if_neg (UInt8.lt_asymm q), if_pos q] at h; cases h
theorem ord_self : ∀ (x : BY), ord x x = .eq
  | [] => rfl
  | a :: x => by
    show (if a < a then Ordering.lt else if a > a then .gt else ord x x) = .eq
    rw [if_neg (UInt8.lt_irrefl a), if_neg (UInt8.lt_irrefl a)]
    exact ord_self x
theorem ord_trans : ∀ (x y z : BY), ord x y = .lt → ord y z = .lt → ord x z = .lt
  | [], [], _, h, _ => by cases h
  | [], _ :: _, [], _, h => by cases h
  | [], _ :: _, _ :: _, _, _ => rfl
  | _ :: _, [], _, h, _ => by cases h
  | _ :: _, _ :: _, [], _, h => by cases h
  | a :: x, b :: y, c :: z, h1, h2 => by
    have h1 : (if a < b then Ordering.lt else if a > b then .gt else ord x y) = .lt := h1
    have h2 : (if b < c then Ordering.lt else if b > c then .gt else ord y z) = .lt := h2
    show (if a < c then Ordering.lt else if a > c then .gt else ord x z) = .lt
    rcases u8_tri a b with q | q | q
    · rcases u8_tri b c with r | r | r
      · rw [if_pos (UInt8.lt_trans q r)]
      · subst r; rw [if_pos q]
      · rw [if_neg (UInt8.lt_asymm r), if_pos r] at h2; cases h2
    · subst q
      rw [if_neg (UInt8.lt_irrefl a), if_neg (UInt8.lt_irrefl a)] at h1
      rcases u8_tri a c with r | r | r
      · rw [if_pos r]
      · subst r
        rw [if_neg (UInt8.lt_irrefl a), if_neg (UInt8.lt_irrefl a)] at h2 ⊢
        exact ord_trans x y z h1 h2
      · rw [if_neg (UInt8.lt_asymm r), if_pos r] at h2; cases h2
    · rw [if_neg (UInt8.lt_asymm q), if_pos q] at h1; cases h1
noncomputable def ltB (x y : BY) : Bool := Builtin.Bytes.holds "__lt__" (ord x y)
theorem ltB_iff {x y : BY} : ltB x y = true ↔ ord x y = .lt := by
  unfold ltB
  show (ord x y == .lt) = true ↔ _
  simp
theorem ltB_not {x y : BY} (h : ltB x y = false) : x = y ∨ ltB y x = true := by
  cases e : ord x y with
  | lt => rw [ltB_iff.mpr e] at h; cases h
  | eq => exact .inl (ord_eq _ _ e)
  | gt => exact .inr (ltB_iff.mpr (by rw [ord_swap, e]; rfl))
noncomputable def byKind : PyProof.Rows.KeyKind where
  α := BY
  blt := ltB
  irrefl a := by cases h : ltB a a with
    | false => rfl
    | true => rw [ltB_iff, ord_self] at h; cases h
  trans a b c h1 h2 := ltB_iff.mpr (ord_trans _ _ _ (ltB_iff.mp h1) (ltB_iff.mp h2))
  negTrans a b c h := by
    cases e : ltB a b with
    | true => exact .inl rfl
    | false =>
      refine .inr ?_
      rcases ltB_not e with rfl | q
      · exact h
      · exact ltB_iff.mpr (ord_trans _ _ _ (ltB_iff.mp q) (ltB_iff.mp h))
  total a b h1 h2 := by
    rcases ltB_not h1 with q | q
    · exact q
    · rw [q] at h2; cases h2
  keyOf v := match v with | .bytes x _ => some x.toList | _ => none
  dflt := []
section
variable {prog : Program} {w : World} {A : Around} {E : Value → Shared → Prop} {s : Shared}
theorem call_by_lt {x y : Array UInt8} {t u : Tok} {Q : Value → Shared → Prop} (h : Q (.bool (ltB x.toList y.toList)) s) : wpAny (model prog w) A (call (.builtin "bytes.__lt__") [.bytes x t, .bytes y u]) Q E s := by
  refine wpAny_call_entry X.slot_bytes_lt (typeIs_bytes s x t) X.entry_bytes_lt ?_ (X.args_bytes_lt_2 _ _)
  show wpAny _ _ (isInstance (.bytes y u) (.type "bytes") >>= fun r => _) _ _ _
  exact wpAny_bind (wpAny_isInstance (typeIs_bytes _ _ _) F.sub_bytes_bytes (wpAny_pure ⟨_, rfl, h⟩))
theorem oneLt_by {x y : Array UInt8} {t u : Tok} {Q : Bool → Shared → Prop} (h : Q (ltB x.toList y.toList) s) : wpAny (model prog w) A (oneLt' true (.bytes x t) (.bytes y u)) Q E s := by
  rw [oneLt'_eq]
  simp only [if_true]
  refine wpAny_bind (wpAny_cRoomFor_byValue rfl ?_)
  refine wpAny_bind (wpAny_callSpecialIfBound?_slot (typeIs_bytes s x t) X.slot_bytes_lt (call_by_lt ?_))
  exact wpAny_truthy_bool h
theorem byKind_oneLt : byKind.OneLt := by
  intro prog w A E s x y a b Q ha hb h
  cases x <;> simp only [byKind, reduceCtorEq, Option.some.injEq] at ha
  cases y <;> simp only [byKind, reduceCtorEq, Option.some.injEq] at hb
  cases ha; cases hb
  exact oneLt_by h
end
theorem BysAre.all : ∀ {vs : List Value} {bs : List BY}, BysAre vs bs → ∀ v ∈ vs, ∃ b t, v = .bytes b t
  | _, _, .nil, v, hv => by simp at hv
  | _, _, .cons h, v, hv => by
    rcases List.mem_cons.mp hv with rfl | hv
    · exact ⟨_, _, rfl⟩
    · exact h.all v hv
theorem first_bys : ∀ {vs : List Value} {bs : List BY}, BysAre vs bs → vs.mapM firstOfTuple' = pure (vs.map fun _ => none)
  | _, _, .nil => by simp
  | _, _, .cons (b := b) (t := t) h => by rw [List.mapM_cons, show firstOfTuple' (.bytes b.toArray t) = pure none from rfl, first_bys h]; simp
theorem type_bys : ∀ {vs : List Value} {bs : List BY}, BysAre vs bs → vs.mapM typeOf = pure (vs.map fun _ => Value.type "bytes")
  | _, _, .nil => by simp
  | _, _, .cons h => by
    rw [List.mapM_cons, type_bys h]
    show (pure (Value.type "bytes") >>= fun b => pure _ >>= fun bs => pure (b :: bs)) = _
    simp
theorem keyKind_bys {vs : List Value} {bs : List BY} (hS : BysAre vs bs) (h2 : 2 ≤ vs.length) : keyKind' vs.toArray = pure oneType' := by
  match vs, h2 with
  | v₁ :: v₂ :: vs, _ =>
  rw [keyKind'_eq, List.mapM_toArray, first_bys hS]
  simp only [map_pure, pure_bind]
  rw [if_neg (by simp), if_neg (by simp)]
  rw [oneTypeOnly'_eq, List.mapM_toArray, type_bys hS]
  simp only [map_pure, pure_bind]
  have hall : ((List.map (fun _ => Value.type "bytes") (v₁ :: v₂ :: vs)).toArray.all fun x => x == Value.type "bytes") = true := by
    simp only [List.all_toArray, List.all_map, List.all_eq_true]
    intro _ _
    rfl
  have h0 : (List.map (fun _ => Value.type "bytes") (v₁ :: v₂ :: vs)).toArray[0]? = some (Value.type "bytes") := by simp
  rw [h0]
  simp only [hall, if_true, pure_bind, Option.isSome_some]
end
-- S3
section
noncomputable def byOf : Value → BY
  | .bytes x _ => x.toList
  | _ => []
theorem BysAre.map : ∀ {vs : List Value} {bs : List BY}, BysAre vs bs → bs = vs.map byOf
  | _, _, .nil => rfl
  | _, _, .cons h => by rw [List.map_cons, ← h.map]; rfl
theorem BysAre.of_all : ∀ {vs : List Value}, (∀ v ∈ vs, ∃ b t, v = .bytes b t) → BysAre vs (vs.map byOf)
  | [], _ => .nil
  | v :: vs, h => by
    obtain ⟨b, t, rfl⟩ := h v (.head _)
    have := BysAre.cons (b := b.toList) (t := t) (BysAre.of_all fun u hu => h u (.tail _ hu))
    simpa [byOf] using this
theorem BysAre.perm {vs vs' : List Value} {bs : List BY} (h : BysAre vs bs) (p : vs'.Perm vs) : ∃ bs', BysAre vs' bs' ∧ bs'.Perm bs := by
  refine ⟨vs'.map byOf, .of_all fun v hv => h.all v (p.mem_iff.mp hv), ?_⟩
  rw [h.map]
  exact p.map _
section
variable {prog : Program} {w : World} {A : Around} {E : Value → Shared → Prop}
  {gE hE g h : Heap} {S : List Addr} {L : Addr} {m : Str → Option Value} {mu : List (Addr × Obj)} {gs : Array GenState} {dr : Drawn} {tk : Nat} {os : OsState}

/-- sorted(list of bytes): the same items in some order -/
theorem sortBys {l : Addr} {vs : List Value} {nl : Nat} {bs : List BY} {Q : Value → Shared → Prop}
    (st : St gE hE S g L m mu h) (hl : h.get? l = some (lst vs.toArray nl)) (hb : BysAre vs bs) (h64 : vs.length < 64)
    (hq : ∀ D h' c vs' bs', hE.objs.size ≤ D → BysAre vs' bs' → bs'.Perm bs → St gE hE S g L m ((D, lst vs'.toArray c) :: mu) h' → Q (.ref D) ⟨h', gs, dr, tk, os⟩) :
    wpAny (model prog w) A (call (.builtin "sorted") [.ref l]) Q E ⟨h, gs, dr, tk, os⟩ := by
  refine PyProof.Rows.sortedK (s := ⟨h, gs, dr, tk, os⟩) (vs := vs) byKind_oneLt (isl hl) (fun p hp => ?_) (fun v₁ v₂ rest e => ?_) h64 fun st' hp _ => ?_
  · rw [pairsOf_toList] at hp
    have : p.1 ∈ vs := (List.of_mem_zip (a := p.1) (b := p.2) hp).1
    obtain ⟨b, t, e⟩ := hb.all _ this
    exact ⟨b.toList, by rw [e]; rfl⟩
  · have := keyKind_bys hb (by rw [e]; simp)
    rw [← e]; exact this
  · obtain ⟨c, hc⟩ := sortedAll_at h vs ((arrOf st').map (·.2))
    have hperm : (((arrOf st').map (·.2)).toList).Perm vs := by
      rw [Array.toList_map]
      refine (hp.toList.map _).trans ?_
      rw [pairsOf_toList]
      have e : (vs.zip vs).map (·.2) = vs := List.map_snd_zip (by omega)
      show ((vs.zip vs).map fun x => x.2).Perm vs
      rw [e]
    obtain ⟨bs', hb', hpb⟩ := hb.perm hperm
    refine hq (h.objs.size + 1) _ c _ bs' (Nat.le_succ_of_le st.step.size) hb' hpb (st.adopt (fun b o e => sortedAll_old e) (Nat.le_succ _) ?_)
    rw [hc, Array.toArray_toList]
end
end
-- S4
section
section
variable {prog : Program} {w : World} {A : Around} {E : Value → Shared → Prop}
  {gE hE g h : Heap} {S : List Addr} {L : Addr} {m : Str → Option Value} {mu : List (Addr × Obj)} {gs : Array GenState} {dr : Drawn} {tk : Nat} {os : OsState}

theorem updO {h : Heap} {a : Addr} {xs : Array Value} {n : Nat} (ho : h.get? a = some (lst xs n)) (f : Array Value → Array Value) : ∃ n', (h.update a (Obj.mapSeq f)).get? a = some (lst (f xs) n') := ⟨_, get?_update_seq ho f⟩
theorem endSmall {a kS : Addr} {vs ks : List Value} {e e1 : Nat} {P : PySem.Fin → Shared → Prop} (st : St gE hE S g L m ((kS, lst ks.toArray e) :: (a, lst #[] e1) :: mu) h) (hl : ks.length = vs.length) (h2 : vs.length < 2)
    (hq : ∀ h' c, St gE hE S g L m ((a, lst vs.toArray c) :: mu) h' → P (.done (.ret .none)) ⟨h', gs, dr, tk, os⟩) :
    wpAny (model prog w) A (ksk_end a false vs.toArray e1 (.ref kS) (List.toArray ks)) P E ⟨h, gs, dr, tk, os⟩ := by
  have hn2 : vs.toArray.size < 2 := by rw [List.size_toArray]; exact h2
  have hk := st.at 0 rfl
  unfold ksk_end
  dsimp only
  rw [if_neg (by simp), if_pos hn2, if_pos hn2]
  refine wpAny_bind (wpAny_pure ?_)
  show wpAny (model prog w) A ((StateT.run (pure () : StateT SortSt Sem Unit) (SortSt.mk' general' ((List.toArray ks).zip vs.toArray) #[] 7 none)) >>= _) P E _
  refine wpAny_bind (wpAny_pure ?_)
  unfold ksk_tail
  dsimp only
  have hout : ((arrOf (SortSt.mk' general' ((List.toArray ks).zip vs.toArray) #[] 7 none)).map (·.2)) = vs.toArray := by
    show (((List.toArray ks).zip vs.toArray).map (·.2)) = vs.toArray
    apply Array.toList_inj.mp
    rw [Array.toList_map, Array.toList_zip]
    show ((ks.zip vs).map fun x => x.2) = vs
    exact List.map_snd_zip (by omega)
  rw [hout]
  refine wpAny_bind (listUpdate_at hk rfl ?_ (by rw [List.size_toArray, sizeLine_eq]; omega) (Nat.zero_le _))
  refine wpAny_bind (wpAny_letGo ?_)
  obtain ⟨n1, h1⟩ := updO hk fun _ => (#[] : Array Value)
  have st := st.upd 0 rfl (Heap.SameBut.update h kS (Obj.mapSeq fun _ => (#[] : Array Value))) h1
  have ha := st.at 1 rfl
  refine wpAny_bind (seqEpoch_at ha rfl ?_)
  refine wpAny_bind (listUpdate_at ha rfl ?_ (Nat.zero_le _) (by rw [sizeLine_eq]; show vs.toArray.size ≤ _; omega))
  obtain ⟨n2, h2'⟩ := updO ha fun _ => vs.toArray
  have st := st.upd 1 rfl (Heap.SameBut.update _ a (Obj.mapSeq fun _ => vs.toArray)) h2'
  show wpAny (model prog w) A (if (e1 != e1) = true then _ else _) P E _
  rw [if_neg (by simp)]
  exact wpAny_pure (hq _ _ (st.sub (List.sublist_cons_self _ _)))

theorem restSmall {A : Around} {D kS : Addr} {vs : List Value} {e1 : Nat} {f : Value} {P : PySem.Fin → Shared → Prop} (st : St gE hE S g L m ((kS, lst #[] 0) :: (D, lst #[] e1) :: mu) h) (h2 : vs.length < 2)
    (turn : ∀ v g₁ h₁ tk₁, v ∈ vs → Sub g g₁ → Sub g₁ h₁ → wpAny (model prog w) A (call f [v]) (fun k s' => ∃ g₂ h₂ tk₂, s' = ⟨h₂, gs, dr, tk₂, os⟩ ∧ Step [] g₁ h₁ g₂ h₂ ∧ Own g₂ h₂ []) (fun _ _ => False) ⟨h₁, gs, dr, tk₁, os⟩)
    (hq : ∀ g' h' c tk', Sub g g' → St gE hE S g' L m ((D, lst vs.toArray c) :: mu) h' → P (.done (.ret .none)) ⟨h', gs, dr, tk', os⟩) :
    wpAny (model prog w) A (ksk_rest D f false vs.toArray e1 (.ref kS)) P E ⟨h, gs, dr, tk, os⟩ := by
  unfold ksk_rest
  refine wpAny_bind (wpAny_rule ?_)
  rcases vs with _ | ⟨v, _ | ⟨v2, r⟩⟩
  · rw [List.forIn_toArray, List.forIn_nil]
    refine wpAny_bind (wpAny_pure ?_)
    refine wpAny_bind (listItems_at (st.at 0 rfl) rfl ?_)
    exact endSmall (ks := []) st rfl h2 fun h' c st => hq g h' c tk Sub.rfl st
  · rw [List.forIn_toArray, List.forIn_cons]
    refine wpAny_bind ?_
    refine wpAny_bind ?_
    refine wpAny_bind (wpAny_attempt (wpAny_mono (turn v g _ tk (.head _) Sub.rfl st.own.keep) (fun k s'' hk => ?_) fun _ _ hF => hF.elim))
    obtain ⟨g₂, h₂, tk₂, rfl, sp, ow⟩ := hk
    have st5 := St.call (mu₁ := []) (mu₁' := []) st sp ow rfl
    have hk := st5.at 0 rfl
    obtain ⟨c2, hc2⟩ := updO (f := (·.push k)) hk
    dsimp only
    refine wpAny_bind (listUpdate_at hk rfl ?_ (Nat.zero_le _) (by rw [sizeLine_eq]; show 1 ≤ _; omega))
    have st6 := st5.upd 0 rfl (Heap.SameBut.update h₂ _ (Obj.mapSeq (·.push k))) hc2
    refine wpAny_pure ?_
    show wpAny (model prog w) A (forIn ([] : List Value) PUnit.unit _) _ E _
    rw [List.forIn_nil]
    refine wpAny_pure ?_
    refine wpAny_bind (listItems_at (st6.at 0 rfl) rfl ?_)
    exact endSmall (ks := [k]) st6 rfl h2 fun h' c st => hq g₂ h' c tk₂ sp.sub st
  · simp at h2; omega

theorem sortSmall {l : Addr} {vs : List Value} {nl : Nat} {f : Value} {kw : List (Str × Value)} {Q : Value → Shared → Prop}
    (st : St gE hE S g L m mu h) (hl : h.get? l = some (lst vs.toArray nl)) (h2 : vs.length < 2)
    (ha1 : argsOk "sorted" ⟨[.ref l], kw⟩) (ha2 : ∀ x, argsOk "list.sort" ⟨[.ref x], kw⟩) (ht : ∀ x, Builtin.«list.sort» ⟨[.ref x], kw⟩ = ksk_tree x f false)
    (turn : ∀ v g₁ h₁ tk₁, v ∈ vs → Sub g g₁ → Sub g₁ h₁ → wpAny (model prog w) A.in1.in1 (call f [v]) (fun k s' => ∃ g₂ h₂ tk₂, s' = ⟨h₂, gs, dr, tk₂, os⟩ ∧ Step [] g₁ h₁ g₂ h₂ ∧ Own g₂ h₂ []) (fun _ _ => False) ⟨h₁, gs, dr, tk₁, os⟩)
    (hq : ∀ D g' h' c tk', Sub g g' → hE.objs.size ≤ D → St gE hE S g' L m ((D, lst vs.toArray c) :: mu) h' → Q (.ref D) ⟨h', gs, dr, tk', os⟩) :
    wpAny (model prog w) A (call (.builtin "sorted") [.ref l] kw) Q E ⟨h, gs, dr, tk, os⟩ := by
  refine call_function_entry_kw (s := ⟨h, gs, dr, tk, os⟩) kind_sorted plain_sorted entry_sorted ha1 ?_
  unfold Builtin.«sorted»
  refine wpAny_bind (m := checkCount "sorted" 1 1 _) (wpAny_pure ?_)
  refine wpAny_bind (collect_list (isl hl) ?_ (by rw [sizeLine_eq]; omega))
  refine wpAny_bind (wpAny_newList ?_ (by rw [sizeLine_eq]; omega))
  have hsz : ((h.push (seqObj "list" #[] 0)).update h.objs.size (Obj.mapSeq (· ++ vs.toArray))).objs.size = h.objs.size + 1 := by
    rw [Heap.size_update, size_push']
  have hoL : (((h.push (seqObj "list" #[] 0)).update h.objs.size (Obj.mapSeq (· ++ vs.toArray))).push (seqObj "list" vs.toArray 0)).get? (h.objs.size + 1) = some (seqObj "list" vs.toArray 0) := by
    rw [← hsz]; exact Heap.get?_push_size _ rfl
  have keep : Sub h (((h.push (seqObj "list" #[] 0)).update h.objs.size (Obj.mapSeq (· ++ vs.toArray))).push (seqObj "list" vs.toArray 0)) := fun b o q => by
    have hlt : b < h.objs.size := Heap.lt_size q
    rw [Heap.get?_push_ne _ _ _ (by rw [hsz]; exact Nat.ne_of_lt (Nat.lt_succ_of_lt hlt)), Heap.get?_update_ne _ _ _ _ (Nat.ne_of_lt hlt), Heap.get?_push_ne _ _ _ (Nat.ne_of_lt hlt)]
    exact q
  have st1 := st.adopt (d := h.objs.size + 1) keep (Nat.le_succ _) hoL
  show wpAny _ _ _ _ _ ⟨((h.push (seqObj "list" #[] 0)).update h.objs.size (Obj.mapSeq (· ++ vs.toArray))).push (seqObj "list" vs.toArray 0), gs, dr, tk, os⟩
  rw [hsz]
  have hD : hE.objs.size ≤ h.objs.size + 1 := Nat.le_succ_of_le st.step.size
  revert st1 hoL
  generalize (((h.push (seqObj "list" #[] 0)).update h.objs.size (Obj.mapSeq (· ++ vs.toArray))).push (seqObj "list" vs.toArray 0)) = hA
  generalize h.objs.size + 1 = D at hD ⊢
  intro hoL st1
  refine wpAny_bind (wpAny_holding (wpAny_call_entry_kw (s := ⟨hA, gs, dr, tk, os⟩) slot_list_sort ⟨_, hoL, rfl⟩ entry_list_sort ?body (ha2 _)))
  case body =>
    rw [ht]
    unfold ksk_tree
    refine wpAny_bind (listItems_at hoL rfl ?_)
    refine wpAny_bind (listUpdate_at hoL rfl ?_ (by rw [List.size_toArray, sizeLine_eq]; omega) (Nat.zero_le _))
    obtain ⟨e1, h1⟩ := updO (f := fun _ => (#[] : Array Value)) hoL
    have st2 := st1.upd 0 rfl (Heap.SameBut.update hA D (Obj.mapSeq fun _ => (#[] : Array Value))) h1
    refine wpAny_bind (seqEpoch_at h1 rfl ?_)
    refine wpAny_bind (wpAny_newTuple ?_ (by show vs.length ≤ _; rw [sizeLine_eq]; omega))
    refine wpAny_bind (wpAny_newList ?_ (Nat.zero_le _))
    have st3 := (st2.new (tup vs.toArray 0)).sub (List.sublist_cons_self _ _)
    have st4 := st3.new (lst #[] 0)
    refine wpAny_holding ?_
    refine restSmall st4 h2 turn fun g' h' c tk' sg st => ⟨_, rfl, wpAny_pure ⟨_, rfl, hq D g' h' c tk' sg hD st⟩⟩
end
end
-- S5
section
/-- items picked by their places -/
noncomputable def pick {α : Type} (l : List α) (d : α) (p : List Nat) : List α := p.map fun i => l.getD i d
theorem pick_range {α : Type} (l : List α) (d : α) : pick l d (List.range l.length) = l := by
  apply List.ext_getElem?
  intro i
  unfold pick
  rw [List.getElem?_map]
  rcases Nat.lt_or_ge i l.length with q | q
  · rw [List.getElem?_range q]; simp [q]
  · rw [List.getElem?_eq_none q, List.getElem?_eq_none (by simpa using q)]; rfl
theorem pick_perm {α : Type} {l : List α} {d : α} {p : List Nat} (h : p.Perm (List.range l.length)) : (pick l d p).Perm l := by
  have := h.map fun i => l.getD i d
  have e := pick_range l d
  unfold pick at e ⊢
  rw [e] at this
  exact this
theorem All2.pick {α : Type} {P : Value → α → Prop} {vs : List Value} {as : List α} {d : α} (h : All2 P vs as) : ∀ {p : List Nat}, (∀ i ∈ p, i < vs.length) → All2 P (Mine.pick vs .none p) (Mine.pick as d p)
  | [], _ => .nil
  | i :: p, hp => by
    have hi := hp i (.head _)
    have hi' : i < as.length := by rw [← h.length]; exact hi
    obtain ⟨v, hv, q⟩ := h.get (List.getElem?_eq_getElem hi')
    refine .cons ?_ (h.pick fun j hj => hp j (.tail _ hj))
    have e1 : vs.getD i .none = v := by simp [hv]
    have e2 : as.getD i d = as[i] := by simp [hi']
    show P (vs.getD i .none) (as.getD i d)
    rw [e1, e2]; exact q
section
variable {prog : Program} {w : World} {A : Around} {E : Value → Shared → Prop}
  {gE hE g h : Heap} {S : List Addr} {L : Addr} {m : Str → Option Value} {mu : List (Addr × Obj)} {gs : Array GenState} {dr : Drawn} {tk : Nat} {os : OsState}

theorem sort_ord {n : Nat} (hn : n ≤ 4) (h2 : 2 ≤ n) {r : Nat → Nat} (hr : ∀ i, i < n → r i < 4) (i a b : Nat) (ha : (krun (fun i j => decide (r i < r j)) (kas_sort n)).toList[i]? = some a) (hb : (krun (fun i j => decide (r i < r j)) (kas_sort n)).toList[i + 1]? = some b) : r a ≤ r b := by
  have key : ∀ (l : List Nat), l.length = n → (∀ i, i < n → rk l i = r i) → ordOk (krun (fun i j => decide (rk l i < rk l j)) (kas_sort n)).toList (rk l) = true → r a ≤ r b := by
    intro l hl he hok
    have safe : (krun (fun i j => decide (r i < r j)) (kas_sort n)).toList.Perm (List.range n) := ksafe_run _ (safe_sort (by omega))
    have cong : ∀ (t : KasT (Array Nat)), ksafe n (fun _ => True) t → krun (fun i j => decide (rk l i < rk l j)) t = krun (fun i j => decide (r i < r j)) t := by
      intro t
      induction t with
      | ret a => intro _; rfl
      | ask i j k ih =>
        rintro ⟨h1, h2, h3⟩
        show krun _ (k (decide (rk l i < rk l j))) = krun _ (k (decide (r i < r j)))
        rw [he i h1, he j h2]
        exact ih _ (h3 _)
    rw [cong _ (ksafe_mono (fun _ _ => trivial) (safe_sort (by omega)))] at hok
    generalize (krun (fun i j => decide (r i < r j)) (kas_sort n)).toList = p at ha hb hok safe
    have mem : ∀ {x i : Nat}, p[i]? = some x → x < n := fun {x i} e => List.mem_range.mp (safe.mem_iff.mp (List.mem_of_getElem? e))
    unfold ordOk at hok
    have hz : ((p.map (rk l)).zip ((p.map (rk l)).drop 1))[i]? = some (rk l a, rk l b) := by
      rw [List.getElem?_zip_eq_some]
      refine ⟨by rw [List.getElem?_map, ha]; rfl, ?_⟩
      rw [List.getElem?_drop, Nat.add_comm, List.getElem?_map, hb]; rfl
    have := List.all_eq_true.mp hok _ (List.mem_of_getElem? hz)
    have := of_decide_eq_true this
    rw [he a (mem ha), he b (mem hb)] at this
    exact this
  have c : n = 2 ∨ n = 3 ∨ n = 4 := by omega
  rcases c with rfl | rfl | rfl
  · exact key [r 0, r 1] rfl (fun i hi => by rcases i with _ | _ | i <;> first | rfl | omega) (sort2 _ (hr 0 (by omega)) _ (hr 1 (by omega)))
  · exact key [r 0, r 1, r 2] rfl (fun i hi => by rcases i with _ | _ | _ | i <;> first | rfl | omega) (sort3 _ (hr 0 (by omega)) _ (hr 1 (by omega)) _ (hr 2 (by omega)))
  · exact key [r 0, r 1, r 2, r 3] rfl (fun i hi => by rcases i with _ | _ | _ | _ | i <;> first | rfl | omega) (sort4 _ (hr 0 (by omega)) _ (hr 1 (by omega)) _ (hr 2 (by omega)) _ (hr 3 (by omega)))

/-- sorted(l, key=f) where the keys are bytes -/
theorem sortKeyB {l : Addr} {vs : List Value} {nl : Nat} {f : Addr} {kb : Nat → BY} {r : Nat → Nat} {Q : Value → Shared → Prop}
    (st : St gE hE S g L m mu h) (hl : h.get? l = some (lst vs.toArray nl)) (hlo : hE.objs.size ≤ l) (hlL : l ≠ L) (h4 : vs.length ≤ 4)
    (hr : ∀ i, i < vs.length → r i < 4) (hlt : ∀ i j, i < vs.length → j < vs.length → ltB (kb i) (kb j) = decide (r i < r j))
    (turn : ∀ i v g₁ h₁ tk₁, vs[i]? = some v → Sub g g₁ → Sub g₁ h₁ → wpAny (model prog w) A.in1.in1 (call (.ref f) [v]) (fun k s' => ∃ g₂ h₂ tk₂ t, s' = ⟨h₂, gs, dr, tk₂, os⟩ ∧ Step [] g₁ h₁ g₂ h₂ ∧ Own g₂ h₂ [] ∧ k = .bytes (kb i).toArray t) (fun _ _ => False) ⟨h₁, gs, dr, tk₁, os⟩)
    (hq : ∀ D g' h' c tk' p, Sub g g' → hE.objs.size ≤ D → p.Perm (List.range vs.length) → (∀ i a b, p[i]? = some a → p[i + 1]? = some b → r a ≤ r b) → St gE hE S g' L m ((D, lst (pick vs .none p).toArray c) :: mu) h' → Q (.ref D) ⟨h', gs, dr, tk', os⟩) :
    wpAny (model prog w) A (call (.builtin "sorted") [.ref l] [(Str.ofString "key", .ref f)]) Q E ⟨h, gs, dr, tk, os⟩ := by
  by_cases h2 : 2 ≤ vs.length
  · refine sortK (KeyP := fun _ i k => ∃ t, k = .bytes (kb i).toArray t) (lt := fun i j => decide (r i < r j)) st hl hlo hlL h2 (by omega) (ksk_s1 _ _) (fun _ => ksk_l1 _ _) (ksk_t1 _) (fun _ _ _ _ _ q => q) (fun i v g₁ h₁ tk₁ hv sg k => ?_) (fun g₁ h₁ ks tk₁ Q sg k hkl hk hQ => ?_) fun D g' h' c tk' sg hD st => ?_
    · exact wpAny_mono (turn i v g₁ h₁ tk₁ hv sg k) (fun k s' ⟨g₂, h₂, tk₂, t, a, b, c, d⟩ => ⟨g₂, h₂, tk₂, a, b, c, t, d⟩) fun _ _ e => e
    · have hb : BysAre ks (ks.map byOf) := .of_all fun v hv => by
        obtain ⟨i, hi⟩ := List.getElem?_of_mem hv
        obtain ⟨t, rfl⟩ := hk i v hi
        exact ⟨_, _, rfl⟩
      refine wpAny_of_eq (keyKind_bys hb (by omega)) (hQ _ _ fun i j C tk₃ hi hj hC => ?_)
      unfold kas_ask
      obtain ⟨ti, ei⟩ := hk i _ (List.getElem?_eq_getElem (by omega))
      obtain ⟨tj, ej⟩ := hk j _ (List.getElem?_eq_getElem (by omega))
      have e1 : ks.getD i .none = .bytes (kb i).toArray ti := by rw [List.getD_eq_getElem?_getD, List.getElem?_eq_getElem (by omega), ei]; rfl
      have e2 : ks.getD j .none = .bytes (kb j).toArray tj := by rw [List.getD_eq_getElem?_getD, List.getElem?_eq_getElem (by omega), ej]; rfl
      rw [e1, e2, keyLt'_oneType]
      refine oneLt_by ?_
      have := hlt i j hi hj
      simp only [List.toList_toArray] at *
      rw [this]
      exact hC _
    · exact hq D g' h' c tk' _ sg hD (ksafe_run _ (safe_sort (by omega))) (fun i a b ha hb => sort_ord h4 h2 hr i a b ha hb) st
  · refine sortSmall st hl (by omega) (ksk_s1 _ _) (fun _ => ksk_l1 _ _) (ksk_t1 _) (fun v g₁ h₁ tk₁ hv sg k => ?_) fun D g' h' c tk' sg hD st => ?_
    · obtain ⟨i, hi⟩ := List.getElem?_of_mem hv
      exact wpAny_mono (turn i v g₁ h₁ tk₁ hi sg k) (fun k s' ⟨g₂, h₂, tk₂, t, a, b, c, d⟩ => ⟨g₂, h₂, tk₂, a, b, c⟩) fun _ _ e => e
    · refine hq D g' h' c tk' (List.range vs.length) sg hD (.refl _) (fun i a b ha hb => ?_) (by rw [pick_range]; exact st)
      have := (List.getElem?_eq_some_iff.mp hb).1
      simp at this; omega
end
end
-- S6
section
section
variable {prog : Program} {w : World} {A : Around} {E : Value → Shared → Prop}
  {gE hE g h : Heap} {S : List Addr} {L : Addr} {m : Str → Option Value} {mu : List (Addr × Obj)} {gs : Array GenState} {dr : Drawn} {tk : Nat} {os : OsState}
theorem katTups_of {h : Heap} {kb : Nat → BY} : ∀ {ks : List Value} {n : Nat}, (∀ i k, ks[i]? = some k → ∃ x t1 t2 z, k = .ref x ∧ h.get? x = some (tup #[.bytes (kb (n + i)).toArray t1, .int z t2] 0)) → ∃ fs : List Value, fs.length = ks.length ∧ KatTups h ks fs ∧ ∀ v ∈ fs, ∃ b t, v = .bytes b t
  | [], n, _ => ⟨[], rfl, .nil, fun _ q => nomatch q⟩
  | k :: ks, n, hk => by
    obtain ⟨x, t1, t2, z, rfl, hx⟩ := hk 0 k rfl
    obtain ⟨fs, hl, ht, hf⟩ := katTups_of (h := h) (kb := kb) (ks := ks) (n := n + 1) fun i k' e => by
      have := hk (i + 1) k' (by simpa using e)
      rwa [show n + (i + 1) = n + 1 + i by omega] at this
    refine ⟨.bytes (kb (n + 0)).toArray t1 :: fs, by simp [hl], .cons hx rfl rfl rfl ht, fun v hv => ?_⟩
    rcases List.mem_cons.mp hv with rfl | hv
    · exact ⟨_, _, rfl⟩
    · exact hf v hv
/-- sorted(l, key=f) where the keys are tuples of bytes and an int: the same items in some order -/
theorem sortKeyT {l : Addr} {vs : List Value} {nl : Nat} {f : Addr} {kb : Nat → BY} {kz : Nat → Int} {Q : Value → Shared → Prop}
    (st : St gE hE S g L m mu h) (hl : h.get? l = some (lst vs.toArray nl)) (hlo : hE.objs.size ≤ l) (hlL : l ≠ L) (h64 : vs.length < 64)
    (turn : ∀ i v g₁ h₁ tk₁, vs[i]? = some v → Sub g g₁ → Sub g₁ h₁ → wpAny (model prog w) A.in1.in1 (call (.ref f) [v]) (fun k s' => ∃ g₂ h₂ tk₂ x t1 t2, s' = ⟨h₂, gs, dr, tk₂, os⟩ ∧ Step [] g₁ h₁ g₂ h₂ ∧ Own g₂ h₂ [] ∧ k = .ref x ∧ g₂.get? x = some (tup #[.bytes (kb i).toArray t1, .int (kz i) t2] 0)) (fun _ _ => False) ⟨h₁, gs, dr, tk₁, os⟩)
    (hq : ∀ D g' h' c tk' p, Sub g g' → hE.objs.size ≤ D → p.Perm (List.range vs.length) → St gE hE S g' L m ((D, lst (pick vs .none p).toArray c) :: mu) h' → Q (.ref D) ⟨h', gs, dr, tk', os⟩) :
    wpAny (model prog w) A (call (.builtin "sorted") [.ref l] [(Str.ofString "key", .ref f)]) Q E ⟨h, gs, dr, tk, os⟩ := by
  by_cases h2 : 2 ≤ vs.length
  · refine sortK (KeyP := fun g i k => ∃ x t1 t2, k = .ref x ∧ g.get? x = some (tup #[.bytes (kb i).toArray t1, .int (kz i) t2] 0)) (lt := fun i j => if kb i = kb j then (if kz i = kz j then false else decide (kz i < kz j)) else ltB (kb i) (kb j)) st hl hlo hlL h2 h64 (ksk_s1 _ _) (fun _ => ksk_l1 _ _) (ksk_t1 _) (fun _ _ _ _ k ⟨x, t1, t2, a, b⟩ => ⟨x, t1, t2, a, k _ _ b⟩) (fun i v g₁ h₁ tk₁ hv sg k => ?_) (fun g₁ h₁ ks tk₁ Q sg k hkl hk hQ => ?_) fun D g' h' c tk' sg hD st => ?_
    · exact wpAny_mono (turn i v g₁ h₁ tk₁ hv sg k) (fun k s' ⟨g₂, h₂, tk₂, x, t1, t2, a, b, c, d, e⟩ => ⟨g₂, h₂, tk₂, a, b, c, x, t1, t2, d, e⟩) fun _ _ e => e
    · obtain ⟨fs, hfl, ht, hf⟩ := katTups_of (h := h₁) (kb := kb) (ks := ks) (n := 0) fun i k' e => by
        obtain ⟨x, t1, t2, a, b⟩ := hk i k' e
        rw [Nat.zero_add]
        exact ⟨x, t1, t2, kz i, a, k _ _ b⟩
      refine kat_kind (s := ⟨h₁, gs, dr, tk₁, os⟩) (T := .type "bytes") ht (by omega) (fun v hv => ?_) rfl (hQ _ _ fun i j C tk₃ hi hj hC => ?_)
      · obtain ⟨b, t, rfl⟩ := hf v hv
        exact .now
      · unfold kas_ask
        obtain ⟨xi, ti1, ti2, ei, hi'⟩ := hk i _ (List.getElem?_eq_getElem (by omega))
        obtain ⟨xj, tj1, tj2, ej, hj'⟩ := hk j _ (List.getElem?_eq_getElem (by omega))
        have e1 : ks.getD i .none = .ref xi := by rw [List.getD_eq_getElem?_getD, List.getElem?_eq_getElem (by omega), ei]; rfl
        have e2 : ks.getD j .none = .ref xj := by rw [List.getD_eq_getElem?_getD, List.getElem?_eq_getElem (by omega), ej]; rfl
        rw [e1, e2]
        refine kat_lt (s := ⟨h₁, gs, dr, tk₃, os⟩) (k _ _ hi') rfl (k _ _ hj') rfl ?_
        refine kat_cons ?_
        refine eqBool_bytes ?_
        by_cases q : kb i = kb j
        · have e3 : decide ((kb i).toArray.toList = (kb j).toArray.toList) = true := decide_eq_true q
          rw [e3]
          refine kat_yes ?_
          refine kat_cons ?_
          refine wpAny_eqBool_int ?_
          by_cases r : kz i = kz j
          · rw [r, beq_self_eq_true]
            refine kat_yes (kat_nil ?_)
            have := hC tk₃
            rw [if_pos q, if_pos r] at this
            exact this
          · rw [beq_eq_false_iff_ne.mpr r]
            refine kat_no ?_
            show wpAny _ _ (oneLt' false _ _) _ _ _
            refine kat_one _ _ (P.lt_int ?_)
            have := hC tk₃
            rw [if_pos q, if_neg r] at this
            exact this
        · have e3 : decide ((kb i).toArray.toList = (kb j).toArray.toList) = false := decide_eq_false q
          rw [e3]
          refine kat_no ?_
          show wpAny _ _ (oneLt' true _ _) _ _ _
          refine oneLt_by ?_
          have := hC tk₃
          rw [if_neg q] at this
          exact this
    · exact hq D g' h' c tk' _ sg hD (ksafe_run _ (safe_sort (by omega))) st
  · refine sortSmall st hl (by omega) (ksk_s1 _ _) (fun _ => ksk_l1 _ _) (ksk_t1 _) (fun v g₁ h₁ tk₁ hv sg k => ?_) fun D g' h' c tk' sg hD st => ?_
    · obtain ⟨i, hi⟩ := List.getElem?_of_mem hv
      exact wpAny_mono (turn i v g₁ h₁ tk₁ hi sg k) (fun k s' ⟨g₂, h₂, tk₂, x, t1, t2, a, b, c, d⟩ => ⟨g₂, h₂, tk₂, a, b, c⟩) fun _ _ e => e
    · exact hq D g' h' c tk' (List.range vs.length) sg hD (.refl _) (by rw [pick_range]; exact st)
end
end
-- L0
section
theorem bAt_keeps {h h' : Heap} {mg : Str → Option Value} {P : Addr} (B : h.BuiltinsAt mg P) (k : Sub h h') : h'.BuiltinsAt mg P :=
  let ⟨bm, o, a, b, c, d, e, f⟩ := B; ⟨bm, o, a, b, c, d, k _ _ e, f⟩
theorem rec_keeps {h h' : Heap} {cd : Value} {n : Str} (B : h.CodeRec cd n) (k : Sub h h') : h'.CodeRec cd n :=
  let ⟨c, oc, vs, tq, a, b, d⟩ := B; ⟨c, oc, vs, tq, a, k _ _ b, d⟩
/-- the code table of _law_tree, before and behind the first lambda -/
noncomputable def TabIs (g : Heap) (qual : Str) (pos : Pos) (tab : Array Value) : Prop := tab = #[] ∨ ∃ c', tab = #[rawInt pos.line, rawInt pos.col, .ref c'] ∧ g.CodeRec (.ref c') qual
theorem TabIs.sub {g g' : Heap} {qual : Str} {pos : Pos} {tab : Array Value} (T : TabIs g qual pos tab) (k : Sub g g') : TabIs g' qual pos tab := T.imp id fun ⟨c, a, b⟩ => ⟨c, a, rec_keeps b k⟩
section
variable {prog : Program} {w : World} {mg mb : Str → Option Value} {p : Program} {loose : List Str} {A : Around} {E : Value → Shared → Prop}
  {gE hE g h : Heap} {S : List Addr} {L : Addr} {m : Str → Option Value} {mu : List (Addr × Obj)} {gs : Array GenState} {dr : Drawn} {tk : Nat} {os : OsState}

/-- a lambda of _law_tree is made -/
theorem mkLam {env : Env} {name qual : Str} {params : Arguments} {body : Expr} {scope : Scope} {pos : Pos} {tab : Array Value} {Q : Value → Shared → Prop} (st : St gE hE S g L m mu h) (i : Nat) (hi : mu[i]? = some (543, tabObj tab))
    (C : Cx w mg mb p loose g) (B : g.BuiltinsAt mg 543) (ht : TabIs g qual pos tab) (hcl : closureFor scope env = pure []) (hge0 : env.globals = mainGlobals) (hcode : env.code = .ref 545)
    (hq : ∀ f c' ctv pm g' h' tk' tab', Sub g g' → g'.get? f = some (kla_obj name qual params body scope [] pm c' ctv) → g'.CodeRec (.ref c') qual → TabIs g' qual pos tab' → St gE hE S g' L m (mu.set i (543, tabObj tab')) h' → Q (.ref f) ⟨h', gs, dr, tk', os⟩) :
    wpAny (model prog w) A (makeFunction name qual params (.expr body) scope env [] [] [] pos pos.line) Q E ⟨h, gs, dr, tk, os⟩ := by
  have hP := st.at i hi
  have hgs := C.T.g.keeps st.own.keep
  have hcd : CodeHd h 545 543 := codeHd_of_K (C.X.keeps st.own.keep) (by kernel_rfl!)
  have hb := bAt_keeps B st.own.keep
  rcases ht with rfl | ⟨c', rfl, hr⟩
  · refine kla_makeFunction (s := ⟨h, gs, dr, tk, os⟩) (mg := mg) (ps := #[]) hcl hge0 hgs hcode hcd hP trivial rfl (by decide) hb fun c' ctv h' tk' hx hge hlt hrec htab => ?_
    have hset : (mu.set i (543, tabObj (#[] ++ #[rawInt pos.line, rawInt pos.col, .ref c'])))[i]? = some (543, tabObj (#[] ++ #[rawInt pos.line, rawInt pos.col, .ref c'])) := by
      rw [List.getElem?_set_self (List.getElem?_eq_some_iff.mp hi).1]
    have st1 : St gE hE S g L m (mu.set i (543, tabObj (#[] ++ #[rawInt pos.line, rawInt pos.col, .ref c']))) h' := st.moveN i hi (st.ns.extBut hx (st.ml _ (List.mem_of_getElem? hi)).1.symm) (fun b x n1 n2 e => hx b x n1 e) htab
    obtain ⟨c, oc, vs, tq, e1, hoc, e3⟩ := hrec
    cases e1
    have hge' : hE.objs.size ≤ c' := Nat.le_trans st.step.size hge
    have st2 := st1.addO hoc hge' (fun e => absurd st.ns.lt (by rw [← e]; exact Nat.not_lt.mpr hge)) (by
      cases q : g.get? c' with
      | none => rfl
      | some x => exact absurd (Heap.lt_size (st.own.keep _ _ q)) (Nat.not_lt.mpr hge)) (fun q hq e => by
      have : q.1 ∈ (mu.set i (543, tabObj (#[] ++ #[rawInt pos.line, rawInt pos.col, .ref c']))).map (·.1) := List.mem_map_of_mem hq
      rw [set_map_fst hi] at this
      obtain ⟨q', hq', e'⟩ := List.mem_map.mp this
      have := Heap.lt_size (st.own.mem q' hq').1
      rw [e', e] at this
      exact absurd this (Nat.not_lt.mpr hge))
    obtain ⟨g1, k1, a1, _, st3⟩ := st2.freeze hge'
    obtain ⟨g2, k2, a2, _, st4⟩ := (st3.new (kla_obj name qual params body scope [] ((mg "__name__").getD .none) c' ctv)).freeze st3.step.size
    exact hq _ c' ctv _ g2 _ _ _ (k1.trans k2) a2 ⟨c', oc, vs, tq, rfl, k2 _ _ a1, e3⟩ (.inr ⟨c', by simp, ⟨c', oc, vs, tq, rfl, k2 _ _ a1, e3⟩⟩) st4
  · refine kla_makeFunctionHit (s := ⟨h, gs, dr, tk, os⟩) (mg := mg) (cv := .ref c') hcl hge0 hgs hcode hcd hP (by repeat constructor) (by show (if (((pos.line : Nat) : Int) == pos.line && ((pos.col : Nat) : Int) == pos.col) = true then _ else _) = _; simp) hb fun ctv h' tk' hk hsz => ?_
    have st1 := st.grow hk hsz
    obtain ⟨g2, k2, a2, _, st4⟩ := (st1.new (kla_obj name qual params body scope [] ((mg "__name__").getD .none) c' ctv)).freeze st1.step.size
    have e : mu.set i (543, tabObj #[rawInt pos.line, rawInt pos.col, .ref c']) = mu := by
      apply List.ext_getElem?
      intro j
      rw [List.getElem?_set]
      split
      · rename_i q; subst q
        rw [hi]; split
        · rfl
        · rename_i q; rw [List.getElem?_eq_none (Nat.not_lt.mp q)] at hi; cases hi
      · rfl
    exact hq _ c' ctv _ g2 _ _ #[rawInt pos.line, rawInt pos.col, .ref c'] k2 a2 (rec_keeps hr k2) (.inr ⟨c', rfl, rec_keeps hr k2⟩) (by rw [e]; exact st4)

/-- a lambda is entered -/
theorem enterE {n : Nat} {f : Addr} {fd : FuncData} {body : Expr} {args : Args} {binds : List (Str × Value)} {R : Result → Shared → Prop} {oc : Value} {od : Option Addr} {osl : Array (Option Value)}
    (C : Cx w mg mb p loose g) (ow : Own g h mu) (rm : Rm A (n + 1))
    (hf : g.get? f = some ⟨oc, od, .func fd, osl⟩) (hcd : g.CodeRec fd.code fd.qualname) (hbody : fd.body = .expr body)
    (hbind : bindArgs fd args = pure binds) (hloc : (binds.all fun x => decide (fd.scope.names.lookup x.1 = some .local)) = true)
    (walk : ∀ E h₁ tk₁, Rm (A.deeper (callEnv fd h.objs.size f)) n → St g h (mu.map (·.1)) g h.objs.size (fun y => binds.reverse.lookup y) mu h₁ →
      wpAny (model prog w) (A.deeper (callEnv fd h.objs.size f)) (eval body (callEnv fd h.objs.size f)) (fun v s' => R (.ok (.ret v)) s') E ⟨h₁, gs, dr, tk₁, os⟩)
    (hco : fd.scope.isCoroutine = false) (hgen : fd.scope.isGenerator = false) (hk : fd.scope.kind = .function) (hcell : (fd.scope.names.all fun x => x.2 != .cell) = true) :
    codeAny (model prog w) A (.call (.ref f) args) R ⟨h, gs, dr, tk, os⟩ := by
  have lim := C.T.nolimit.keeps ow.keep
  refine kla_callFunE (s := ⟨h, gs, dr, tk, os⟩) rm.lim (ow.keep _ _ hf) rfl hco hgen hbody (rec_keeps hcd ow.keep) ?_
  rw [hbind]
  refine wpAny_pure (wpAny_newFunctionEnv (fun x hx => by simpa using List.all_eq_true.mp hcell x hx) (locs hloc) (fun h₁ hns hsb => ⟨lim.fresh _ hsb, ?_⟩) hk)
  have hk₁ : ∀ b o, h.get? b = some o → h₁.get? b = some o := fun b o e => hsb.extBut b o (Nat.ne_of_lt (Heap.lt_size e)) (Heap.get?_push_of_some _ e)
  have sz : h.objs.size ≤ h₁.objs.size := Nat.le_of_lt hns.lt
  refine kla_codeExpr (wpAny_mono (walk _ h₁ _ rm.deeper ⟨⟨ow.keep.trans hk₁, fun q hq => ⟨hk₁ _ _ (ow.mem q hq).1, (ow.mem q hq).2⟩, ow.nd⟩, ⟨Sub.rfl, fun _ _ => rfl, fun b o e _ => hk₁ b o e, sz⟩, hns, ?_, Nat.le_refl _, fun q hq => ⟨Nat.ne_of_lt (Heap.lt_size (ow.mem q hq).1), .inl (List.mem_map_of_mem hq)⟩⟩) (fun _ _ q => q) fun _ _ e => e)
  cases q : g.get? h.objs.size with
  | none => rfl
  | some x => exact absurd (Heap.lt_size (ow.keep _ _ q)) (Nat.lt_irrefl _)
end
end
-- P1
section
/-- the law's files and folders -/
noncomputable def PS : List BY := [[97], [98, 46, 120], [98, 47, 99], [98, 47, 100, 47, 101], [98, 47, 100, 47, 102], [99, 47, 103]]
noncomputable def FsL : List BY := [[], [98], [98, 47, 100], [99]]
noncomputable def pfx (p : BY) : BY := if p = [] then [] else p ++ [47]
noncomputable def rankF (p : BY) : Nat := if p = [] then 2 else if p = [98] then 1 else 0
noncomputable def fileN (p : BY) : List BY := if p = [] then [[97], [98, 46, 120]] else if p = [98] then [[99]] else if p = [98, 47, 100] then [[101], [102]] else [[103]]
noncomputable def dirN (p : BY) : List BY := if p = [] then [[98], [99]] else if p = [98] then [[100]] else []
noncomputable def keysF (p : BY) : List BY := if p = [] then [[97], [98, 46, 120], [98, 47], [99, 47]] else if p = [98] then [[99], [100, 47]] else if p = [98, 47, 100] then [[101], [102]] else [[103]]
/-- k is p or lies below it -/
noncomputable def Bel (p k : BY) : Bool := p == [] || k == p || (p ++ [47]).isPrefixOf k
noncomputable def nameIn (f p : BY) : BY := (partsOf (p.drop (pfx f).length)).headD []
noncomputable def okName (b : BY) : Bool := decide (b.length ≤ 3) && b != [] && b != [46] && b != [46, 46] && b.map Builtin.Bytes.toLower != [46, 103, 105, 116] && !b.contains 47 && !b.contains 0
theorem okName_ok {b : BY} (h : okName b = true) : NameOk b ∧ b.length ≤ 3 := by
  simp only [okName, Bool.and_eq_true, bne_iff_ne, decide_eq_true_eq, Bool.not_eq_true', List.contains_eq_mem, decide_eq_false_iff_not] at h
  obtain ⟨⟨⟨⟨⟨⟨a, b1⟩, c⟩, d⟩, e⟩, f⟩, g⟩ := h
  exact ⟨⟨by omega, b1, ⟨c, d⟩, e, f, g⟩, a⟩
noncomputable def fact1 (f p : BY) : Bool := !(pfx f).isPrefixOf p || (decide ((partsOf (p.drop (pfx f).length)).length ≤ 10) && (partsOf (p.drop (pfx f).length)).all (fun x => decide (x.length ≤ 10)) && decide (partsOf (p.drop (pfx f).length) ≠ []) &&
  (if pfx f ++ nameIn f p = p then (fileN f).contains (nameIn f p) else (dirN f).contains (nameIn f p)))
theorem fact1_all : (FsL.all fun f => PS.all fun p => fact1 f p) = true := by decide +kernel
noncomputable def fact2 (f n : BY) : Bool := okName n && PS.contains (pfx f ++ n) && (keysF f).contains n && !(dirN f).contains n
theorem fact2_all : (FsL.all fun f => (fileN f).all fun n => fact2 f n) = true := by decide +kernel
noncomputable def fact3 (f n : BY) : Bool := okName n && FsL.contains (pfx f ++ n) && decide (rankF (pfx f ++ n) < rankF f) && (keysF f).contains (n ++ [47]) && pfx (pfx f ++ n) == pfx f ++ n ++ [47]
theorem fact3_all : (FsL.all fun f => (dirN f).all fun n => fact3 f n) = true := by decide +kernel
theorem fact4_all : (FsL.all fun f => decide ((keysF f).length ≤ 4) && (keysF f).all fun x => (keysF f).all fun y => ltB x y == decide ((keysF f).idxOf x < (keysF f).idxOf y)) = true := by decide +kernel
/-- folders of one folder have nothing in common -/
theorem fact5_all : (FsL.all fun f => (dirN f).all fun n => (dirN f).all fun n' => n == n' || FsL.all fun z => !(Bel (pfx f ++ n) z && Bel (pfx f ++ n') z)) = true := by decide +kernel
theorem fact6_all : (FsL.all fun f => (dirN f).all fun n => FsL.all fun z => !Bel (pfx f ++ n) z || (Bel f z && z != f)) = true := by decide +kernel
theorem fact7_all : (FsL.all fun f => pfx f == (if f = [] then [] else f ++ [47]) && (pfx f).dropLast == f && decide ((pfx f).length ≤ 10) && Bel f f) = true := by decide +kernel
theorem all_mem {α : Type} {l : List α} {P : α → Bool} (h : l.all P = true) {x : α} (hx : x ∈ l) : P x = true := List.all_eq_true.mp h x hx
theorem joined_pfx {f n : BY} : joined f n = pfx f ++ n := by
  unfold joined pfx
  split
  · rename_i h; subst h; rfl
  · rfl

theorem fPath {f p : BY} (hf : f ∈ FsL) (hp : p ∈ PS) (h : (pfx f).isPrefixOf p = true) :
    (partsOf (p.drop (pfx f).length)).length ≤ 10 ∧ (∀ x ∈ partsOf (p.drop (pfx f).length), x.length ≤ 10) ∧ (∃ r, partsOf (p.drop (pfx f).length) = nameIn f p :: r) ∧ (if pfx f ++ nameIn f p = p then nameIn f p ∈ fileN f else nameIn f p ∈ dirN f) := by
  have := all_mem (all_mem fact1_all hf) hp
  simp only [fact1, h, Bool.not_true, Bool.false_or, Bool.and_eq_true, decide_eq_true_eq] at this
  obtain ⟨⟨⟨a, b⟩, c⟩, d⟩ := this
  refine ⟨a, fun x hx => by simpa using all_mem b hx, ?_, ?_⟩
  · unfold nameIn
    cases e : partsOf (p.drop (pfx f).length) with
    | nil => exact absurd e c
    | cons y r => exact ⟨r, rfl⟩
  · split
    · rename_i q; rw [if_pos q] at d; simpa using d
    · rename_i q; rw [if_neg q] at d; simpa using d
theorem fFile {f n : BY} (hf : f ∈ FsL) (hn : n ∈ fileN f) : (NameOk n ∧ n.length ≤ 3) ∧ pfx f ++ n ∈ PS ∧ n ∈ keysF f ∧ n ∉ dirN f := by
  have := all_mem (all_mem fact2_all hf) hn
  simp only [fact2, Bool.and_eq_true, Bool.not_eq_true'] at this
  obtain ⟨⟨⟨a, b⟩, c⟩, d⟩ := this
  exact ⟨okName_ok a, by simpa using b, by simpa using c, by simpa using d⟩
theorem fDir {f n : BY} (hf : f ∈ FsL) (hn : n ∈ dirN f) : (NameOk n ∧ n.length ≤ 3) ∧ pfx f ++ n ∈ FsL ∧ rankF (pfx f ++ n) < rankF f ∧ n ++ [47] ∈ keysF f ∧ pfx (pfx f ++ n) = pfx f ++ n ++ [47] := by
  have := all_mem (all_mem fact3_all hf) hn
  simp only [fact3, Bool.and_eq_true, decide_eq_true_eq, beq_iff_eq] at this
  obtain ⟨⟨⟨⟨a, b⟩, c⟩, d⟩, e⟩ := this
  exact ⟨okName_ok a, by simpa using b, c, by simpa using d, e⟩
theorem fKeys {f : BY} (hf : f ∈ FsL) : (keysF f).length ≤ 4 ∧ ∀ x ∈ keysF f, ∀ y ∈ keysF f, ltB x y = decide ((keysF f).idxOf x < (keysF f).idxOf y) := by
  have := all_mem fact4_all hf
  simp only [Bool.and_eq_true, decide_eq_true_eq] at this
  exact ⟨this.1, fun x hx y hy => by simpa using all_mem (all_mem this.2 hx) hy⟩
theorem fSib {f n n' z : BY} (hf : f ∈ FsL) (hn : n ∈ dirN f) (hn' : n' ∈ dirN f) (ne : n ≠ n') (hz : z ∈ FsL) (h1 : Bel (pfx f ++ n) z = true) (h2 : Bel (pfx f ++ n') z = true) : False := by
  have := all_mem (all_mem (all_mem fact5_all hf) hn) hn'
  simp only [Bool.or_eq_true, beq_iff_eq] at this
  rcases this with q | q
  · exact ne q
  · have := all_mem q hz
    rw [h1, h2] at this
    simp at this
theorem fDown {f n z : BY} (hf : f ∈ FsL) (hn : n ∈ dirN f) (hz : z ∈ FsL) (h : Bel (pfx f ++ n) z = true) : Bel f z = true ∧ z ≠ f := by
  have := all_mem (all_mem (all_mem fact6_all hf) hn) hz
  rw [h] at this
  simp only [Bool.not_true, Bool.false_or, Bool.and_eq_true, bne_iff_ne] at this
  exact this
theorem fPfx {f : BY} (hf : f ∈ FsL) : (pfx f).dropLast = f ∧ (pfx f).length ≤ 10 ∧ Bel f f = true := by
  have := all_mem fact7_all hf
  simp only [Bool.and_eq_true, decide_eq_true_eq, beq_iff_eq] at this
  exact ⟨this.1.1.2, this.1.2, this.2⟩

/-- a row of a folder: a file, or a folder whose id stands in new -/
noncomputable def RowOf (new : List (BY × BY)) (f : BY) (e : En) : Prop := (e.mode = 33188 ∧ e.name ∈ fileN f) ∨ (e.mode = 16384 ∧ e.name ∈ dirN f ∧ (joined f e.name, e.oid) ∈ new)
theorem RowOf.mono {new new' : List (BY × BY)} {f : BY} {e : En} (R : RowOf new f e) (h : ∀ x ∈ new, x ∈ new') : RowOf new' f e := R.imp id fun ⟨a, b, c⟩ => ⟨a, b, h _ c⟩
noncomputable def TreeAt (items : List Thing) (o : BY) (es : List En) : Prop := ∃ i, o = be4 (i + 1) ∧ items[i]? = some (.tree es) ∧ i < 50000
theorem TreeAt.ext {items items' : List Thing} {o : BY} {es : List En} (T : TreeAt items o es) (h : items <+: items') : TreeAt items' o es := by
  obtain ⟨i, a, b, c⟩ := T
  obtain ⟨r, rfl⟩ := h
  exact ⟨i, a, by rw [List.getElem?_append_left (List.getElem?_eq_some_iff.mp b).1]; exact b, c⟩
theorem TreeAt.uniq {items : List Thing} {o : BY} {es es' : List En} (T : TreeAt items o es) (T' : TreeAt items o es') : es = es' := by
  obtain ⟨i, a, b, c⟩ := T
  obtain ⟨j, a', b', c'⟩ := T'
  have := be4_inj (by omega) (by omega) (a.symm.trans a')
  have : i = j := by omega
  subst this
  rw [b] at b'
  cases b'
  rfl
structure NodeOk (items : List Thing) (new : List (BY × BY)) (q o : BY) : Prop where
  ex : ∃ es, TreeAt items o es ∧ es.length ≤ 4 ∧ (es.map En.name).Nodup ∧ ∀ e ∈ es, RowOf new q e
structure Built (items : List Thing) (new : List (BY × BY)) (p oid : BY) : Prop where
  mem : (p, oid) ∈ new
  node : ∀ q o, (q, o) ∈ new → NodeOk items new q o
  reach : ∀ q o, (q, o) ∈ new → q = p ∨ ∃ r o' es e, (r, o') ∈ new ∧ TreeAt items o' es ∧ e ∈ es ∧ e.mode = 16384 ∧ joined r e.name = q
  nd : (new.map (·.1)).Nodup
  below : ∀ k ∈ new.map (·.1), k ∈ FsL ∧ Bel p k = true
/-- the values of a dict of bytes by bytes -/
inductive IsBM : List (BY × Value) → List (BY × BY) → Prop
  | nil : IsBM [] []
  | cons {k b : BY} {t : Tok} {vs : List (BY × Value)} {bs : List (BY × BY)} : IsBM vs bs → IsBM ((k, .bytes b.toArray t) :: vs) ((k, b) :: bs)
theorem IsBM.keys : ∀ {vs : List (BY × Value)} {bs : List (BY × BY)}, IsBM vs bs → vs.map (·.1) = bs.map (·.1)
  | _, _, .nil => rfl
  | _, _, .cons h => by simp [h.keys]
theorem IsBM.length {vs : List (BY × Value)} {bs : List (BY × BY)} (h : IsBM vs bs) : vs.length = bs.length := by
  have := congrArg List.length h.keys
  simpa using this
theorem IsBM.snoc {k b : BY} {t : Tok} : ∀ {vs : List (BY × Value)} {bs : List (BY × BY)}, IsBM vs bs → IsBM (vs ++ [(k, .bytes b.toArray t)]) (bs ++ [(k, b)])
  | _, _, .nil => .cons .nil
  | _, _, .cons h => .cons h.snoc
theorem IsBM.get : ∀ {vs : List (BY × Value)} {bs : List (BY × BY)} {i : Nat} {k b : BY}, IsBM vs bs → bs[i]? = some (k, b) → ∃ t, vs[i]? = some (k, .bytes b.toArray t)
  | _, _, _, _, _, .nil, e => by simp at e
  | _, _, 0, _, _, .cons h, e => by simp at e; obtain ⟨rfl, rfl⟩ := e; exact ⟨_, rfl⟩
  | _, _, i + 1, _, _, .cons h, e => by simp at e; exact h.get e
theorem IsBM.get' : ∀ {vs : List (BY × Value)} {bs : List (BY × BY)} {i : Nat} {k : BY} {v : Value}, IsBM vs bs → vs[i]? = some (k, v) → ∃ b t, bs[i]? = some (k, b) ∧ v = .bytes b.toArray t
  | _, _, _, _, _, .nil, e => by simp at e
  | _, _, 0, _, _, .cons h, e => by simp at e; obtain ⟨rfl, rfl⟩ := e; exact ⟨_, _, rfl, rfl⟩
  | _, _, i + 1, _, _, .cons h, e => by simp at e; exact h.get' e

theorem pushT_ext {items : List Thing} {th : Thing} : items <+: pushT items th := by
  unfold pushT
  split
  · exact List.prefix_refl _
  · exact List.prefix_append _ _
theorem pushT_len {items : List Thing} {th : Thing} : (pushT items th).length ≤ items.length + 1 := by
  unfold pushT
  split <;> simp
theorem idOf_at {items : List Thing} {th : Thing} : ∃ i, idOf (pushT items th) th = be4 (i + 1) ∧ i < (pushT items th).length ∧ ∃ th', (pushT items th)[i]? = some th' ∧ th'.cont = th.cont := by
  refine ⟨_, rfl, ?_, ?_⟩
  · have hm : th.cont ∈ (pushT items th).map Thing.cont := by
      rw [pushT_cont, pushC]; split
      · assumption
      · simp
    have := List.idxOf_lt_length_iff.mpr hm
    simpa using this
  · have hm : th.cont ∈ (pushT items th).map Thing.cont := by
      rw [pushT_cont, pushC]; split
      · assumption
      · simp
    have hlt := List.idxOf_lt_length_iff.mpr hm
    have := List.getElem_idxOf hlt
    rw [List.getElem_map] at this
    exact ⟨_, List.getElem?_eq_getElem (by simpa using hlt), this⟩
theorem be4_nz {n : Nat} (h : 0 < n) (hn : n < 65536) : ∃ c ∈ be4 n, c ∉ ([0] : BY) := by
  have h2 : (be4 n) = [(n / 2 ^ 24 % 256).toUInt8, (n / 2 ^ 16 % 256).toUInt8, (n / 2 ^ 8 % 256).toUInt8, (n / 2 ^ 0 % 256).toUInt8] := rfl
  rcases Nat.eq_zero_or_pos (n / 2 ^ 8 % 256) with q | q
  · refine ⟨(n / 2 ^ 0 % 256).toUInt8, by rw [h2]; simp, fun e => ?_⟩
    have e := congrArg UInt8.toNat (List.mem_singleton.mp e)
    simp at e
    omega
  · refine ⟨(n / 2 ^ 8 % 256).toUInt8, by rw [h2]; simp, fun e => ?_⟩
    have e := congrArg UInt8.toNat (List.mem_singleton.mp e)
    simp at e
    omega
theorem nodup_len {α : Type} [DecidableEq α] : ∀ {l k : List α}, l.Nodup → (∀ x ∈ l, x ∈ k) → l.length ≤ k.length
  | [], _, _, _ => Nat.zero_le _
  | a :: l, k, nd, h => by
    rw [List.nodup_cons] at nd
    have ha := h a (.head _)
    have := nodup_len (l := l) (k := k.erase a) nd.2 fun x hx => (List.mem_erase_of_ne (fun e => nd.1 (by rw [← e]; exact hx))).mpr (h x (.tail _ hx))
    rw [List.length_erase_of_mem ha] at this
    have := List.length_pos_of_mem ha
    simp; omega
end
-- P2
section
/-- what can be told from its octets -/
noncomputable def GoodE (e : En) : Prop := (e.mode = 33188 ∨ e.mode = 16384) ∧ (0 : UInt8) ∉ e.name ∧ e.oid.length = 4
noncomputable def GoodT : Thing → Prop
  | .blob _ => True
  | .tree es => ∀ e ∈ es, GoodE e
theorem split0 : ∀ {a b x y : BY}, a ++ [0] ++ x = b ++ [0] ++ y → (0 : UInt8) ∉ a → (0 : UInt8) ∉ b → a = b ∧ x = y
  | [], [], x, y, h, _, _ => ⟨rfl, by simpa using h⟩
  | [], c :: b, x, y, h, _, hb => by simp at h; exact absurd (by rw [← h.1]; simp) hb
  | c :: a, [], x, y, h, ha, _ => by simp at h; exact absurd (by rw [h.1]; simp) ha
  | c :: a, d :: b, x, y, h, ha, hb => by
    simp only [List.cons_append, List.cons.injEq] at h
    have := split0 h.2 (fun q => ha (.tail _ q)) (fun q => hb (.tail _ q))
    exact ⟨by rw [h.1, this.1], this.2⟩
theorem enOct_inj {e e' : En} {x y : BY} (h : GoodE e) (h' : GoodE e') (q : enOct e ++ x = enOct e' ++ y) : e = e' ∧ x = y := by
  obtain ⟨m, n, o⟩ := e
  obtain ⟨m', n', o'⟩ := e'
  obtain ⟨h1, h2, h3⟩ := h
  obtain ⟨h1', h2', h3'⟩ := h'
  simp only at h1 h2 h3 h1' h2' h3'
  have key : m = m' := by
    rcases h1 with rfl | rfl <;> rcases h1' with rfl | rfl
    · rfl
    · simp [enOct, oct8] at q
    · simp [enOct, oct8] at q
    · rfl
  subst key
  have q2 : n ++ [0] ++ (o ++ x) = n' ++ [0] ++ (o' ++ y) := by
    have : oct8 m ++ [32] ++ (n ++ [0] ++ (o ++ x)) = oct8 m ++ [32] ++ (n' ++ [0] ++ (o' ++ y)) := by
      simpa [enOct] using q
    exact List.append_cancel_left this
  obtain ⟨rfl, q3⟩ := split0 q2 h2 h2'
  obtain ⟨rfl, rfl⟩ := List.append_inj q3 (by rw [h3, h3'])
  exact ⟨rfl, rfl⟩
theorem ens_inj : ∀ {es es' : List En}, (∀ e ∈ es, GoodE e) → (∀ e ∈ es', GoodE e) → (es.map enOct).flatten = (es'.map enOct).flatten → es = es'
  | [], [], _, _, _ => rfl
  | [], e :: es, _, _, h => by
    have := congrArg List.length h
    simp [enOct] at this
  | e :: es, [], _, _, h => by
    have := congrArg List.length h
    simp [enOct] at this
  | e :: es, e' :: es', h1, h2, h => by
    rw [List.map_cons, List.flatten_cons, List.map_cons, List.flatten_cons] at h
    obtain ⟨rfl, q⟩ := enOct_inj (h1 e (.head _)) (h2 e' (.head _)) h
    rw [ens_inj (fun e he => h1 e (.tail _ he)) (fun e he => h2 e (.tail _ he)) q]
theorem dig_no0 {n : Nat} : (0 : UInt8) ∉ digB n := by
  unfold digB
  intro h
  obtain ⟨c, hc, e⟩ := List.mem_map.mp h
  rw [PySem.W.KIN.signs_num] at hc
  obtain ⟨ch, hch, rfl⟩ := List.mem_map.mp hc
  have := Nat.isDigit_of_mem_toDigits (by decide) (by decide) hch
  simp [Char.isDigit] at this
  have h1 : 48 ≤ ch.toNat := this.1
  have h2 : ch.toNat ≤ 57 := this.2
  have := congrArg UInt8.toNat e
  simp at this
  omega
theorem objB_inj {k k' c c' : BY} (hk : k.length = k'.length) (h : objB k c = objB k' c') : k = k' ∧ c = c' := by
  have h1 : k ++ ([32] ++ (digB c.length ++ [0] ++ c)) = k' ++ ([32] ++ (digB c'.length ++ [0] ++ c')) := by simpa [objB] using h
  obtain ⟨rfl, h2⟩ := List.append_inj h1 hk
  exact ⟨rfl, (split0 (List.append_cancel_left h2) dig_no0 dig_no0).2⟩
theorem cont_inj {a b : Thing} (ha : GoodT a) (hb : GoodT b) (h : a.cont = b.cont) : a = b := by
  cases a with
  | blob x => cases b with
    | blob y => obtain ⟨_, e⟩ := objB_inj rfl h; exact congrArg Thing.blob e
    | tree y => have e := (objB_inj (k := [98, 108, 111, 98]) (k' := [116, 114, 101, 101]) rfl h).1; exact absurd e (by decide)
  | tree x => cases b with
    | blob y => have e := (objB_inj (k := [116, 114, 101, 101]) (k' := [98, 108, 111, 98]) rfl h).1; exact absurd e (by decide)
    | tree y => obtain ⟨_, e⟩ := objB_inj rfl h; exact congrArg Thing.tree (ens_inj ha hb e)
noncomputable def GoodI (items : List Thing) : Prop := ∀ th ∈ items, GoodT th
theorem GoodI.push {items : List Thing} {th : Thing} (h : GoodI items) (g : GoodT th) : GoodI (pushT items th) := by
  unfold pushT
  split
  · exact h
  · intro x hx
    rcases List.mem_append.mp hx with hx | hx
    · exact h x hx
    · rw [List.mem_singleton.mp hx]; exact g
theorem tree_at {items : List Thing} {es : List En} (h : GoodI items) (g : GoodT (.tree es)) (hz : items.length < 50000) : TreeAt (pushT items (.tree es)) (idOf (pushT items (.tree es)) (.tree es)) es := by
  obtain ⟨i, a, b, th', c, d⟩ := idOf_at (items := items) (th := .tree es)
  have := cont_inj (h.push g th' (List.mem_of_getElem? c)) g d
  subst this
  exact ⟨i, a, c, by have := pushT_len (items := items) (th := .tree es); omega⟩
/-- an id of the store -/
noncomputable def IdB (o : BY) : Prop := ∃ i, o = be4 (i + 1) ∧ i < 50001
theorem IdB.ok {o : BY} (h : IdB o) : o.length = 4 ∧ ∃ c ∈ o, c ∉ ([0] : BY) := by
  obtain ⟨i, rfl, hi⟩ := h
  exact ⟨be4_len, be4_nz (by omega) (by omega)⟩
theorem idOf_id {items : List Thing} {th : Thing} (hz : items.length ≤ 50000) : IdB (idOf (pushT items th) th) := by
  obtain ⟨i, a, b, _⟩ := idOf_at (items := items) (th := th)
  exact ⟨i, a, by have := pushT_len (items := items) (th := th); omega⟩
end
-- F14
section
section
variable {prog : Program} {w : World} {mg mb : Str → Option Value} {p : Program} {loose : List Str} {A : Around} {E : Value → Shared → Prop}
  {g h : Heap} {mu : List (Addr × Obj)} {gs : Array GenState} {dr : Drawn} {tk : Nat} {os : OsState}
noncomputable def IsRow (g : Heap) (v : Value) (e : En) : Prop := ∃ x t1 t2 t3 n, v = .ref x ∧ g.get? x = some (tup #[.bytes e.name.toArray t1, .int e.mode t2, .bytes e.oid.toArray t3] n)
theorem IsRow.sub {g g' : Heap} {v : Value} {e : En} (R : IsRow g v e) (k : Sub g g') : IsRow g' v e := let ⟨x, a, b, c, d, f, i⟩ := R; ⟨x, a, b, c, d, f, k _ _ i⟩
structure SheetAt (prog : Program) (w : World) (g : Heap) (sp : Addr) (sh : List (BY × BY)) : Prop where
  ex : ∃ kvs, DF prog w g sp kvs ∧ IsBM kvs sh
  ok : ∀ kc ∈ sh, kc.1 ∈ PS ∧ kc.2.length ≤ 900
  nd : (sh.map (·.1)).Nodup
theorem SheetAt.sub {prog : Program} {w : World} {g g' : Heap} {sp : Addr} {sh : List (BY × BY)} (s : SheetAt prog w g sp sh) (k : Sub g g') : SheetAt prog w g' sp sh :=
  let ⟨kvs, a, b⟩ := s.ex; ⟨⟨kvs, a.sub k, b⟩, s.ok, s.nd⟩
noncomputable def lamQ : Str := "_law_tree.<locals>.<lambda>"
noncomputable def lamPos : Pos := { line := 339, col := 28, endLine := 339, endCol := 81 }
noncomputable def LT (prog : Program) (w : World) (mg mb : Str → Option Value) (pr : Program) (loose : List Str) (S kn kd ip sp : Addr) (sh : List (BY × BY)) (r : Nat) : Prop :=
  ∀ (A : Around) (g h : Heap) (gs : Array GenState) (dr : Drawn) (tk : Nat) (os : OsState) (p : BY) (tab : Array Value) (o1 o2 oI : Obj) (items : List Thing) (kvsI : List (BY × Value)) (idl : List (BY × BY)) (t : Tok) (Q : Value → Shared → Prop) (n : Nat),
    rankF p ≤ r → p ∈ FsL → Cx w mg mb pr loose g → g.BuiltinsAt mg 543 → Rm A (n + r + 14) → Own g h [(kn, o1), (kd, o2), (543, tabObj tab), (ip, oI)] → TabIs g lamQ lamPos tab → StoreAt g S kn kd → SheetAt prog w g sp sh →
    StF prog w g kn kd o1 o2 items → GoodI items → items.length + 12 ^ (r + 1) ≤ 50000 → DM prog w ip oI kvsI → IsBM kvsI idl → (idl.map (·.1)).Nodup → (∀ k ∈ idl.map (·.1), k ∈ FsL ∧ Bel p k = false) →
    (∀ oid items' new tab' o1' o2' oI' kvsI' g' h' tk' t', Step [kn, kd, 543, ip] g h g' h' → Own g' h' [(kn, o1'), (kd, o2'), (543, tabObj tab'), (ip, oI')] → TabIs g' lamQ lamPos tab' → StF prog w g' kn kd o1' o2' items' → GoodI items' →
      items <+: items' → items'.length ≤ items.length + 12 ^ (r + 1) → DM prog w ip oI' kvsI' → IsBM kvsI' (idl ++ new) → Built items' new p oid → Q (.bytes oid.toArray t') ⟨h', gs, dr, tk', os⟩) →
    wpC (model prog w) A (call (.ref 546) [.ref S, .ref sp, .bytes (pfx p).toArray t, .ref ip]) Q ⟨h, gs, dr, tk, os⟩

noncomputable def lamOf (w : World) : Arguments × Expr × Scope := match (bodyOf w 546).drop 3 with
  | Stmt.Assign _ (Expr.Call _ _ [⟨_, Expr.Lambda p b s _, _⟩] _) _ :: _ => (p, b, s)
  | _ => default
noncomputable abbrev lamP (w : World) := (lamOf w).1
noncomputable abbrev lamB (w : World) := (lamOf w).2.1
noncomputable abbrev lamS (w : World) := (lamOf w).2.2
theorem lam_spec {f c' : Addr} {ctv pm v : Value} {e : En} {Q : Value → Shared → Prop} {n : Nat} (C : Cx w mg mb p loose g) (k : Sub g h) (rm : Rm A (n + 1)) (hf : g.get? f = some (kla_obj "<lambda>" lamQ (lamP w) (lamB w) (lamS w) [] pm c' ctv)) (hc : g.CodeRec (.ref c') lamQ) (R : IsRow g v e) (hz : e.name.length ≤ 500)
    (ret : ∀ h' tk' t', Step [] g h g h' → Own g h' [] → Q (.bytes (keyOf e).toArray t') ⟨h', gs, dr, tk', os⟩) :
    wpAny (model prog w) A (call (.ref f) [v]) Q E ⟨h, gs, dr, tk, os⟩ := by
  obtain ⟨x, t1, t2, t3, nx, rfl, hx⟩ := R
  refine wpAny_call ?_
  refine enterE (f := f) (fd := kla_fn "<lambda>" lamQ (lamP w) (lamB w) (lamS w) [] pm (.ref c') ctv) (body := lamB w) (binds := [("row", .ref x)]) C (Own.nil k) rm hf hc rfl ?d ?e ?walk ?f ?g ?i ?j
  case walk =>
    intro E h₁ tk₁ rm st
    refine wpAny_BinOp ?_
    walk_at "go"
    refine tItem (k := 0) (its := [.bytes e.name.toArray t1, .int e.mode t2, .bytes e.oid.toArray t3]) (n := nx) (st.own.keep _ _ hx) (by decide) rfl ?_
    walk_at "go"
    refine tItem (k := 1) (its := [.bytes e.name.toArray t1, .int e.mode t2, .bytes e.oid.toArray t3]) (n := nx) (st.own.keep _ _ hx) (by decide) rfl ?_
    walk_at "go"
    by_cases q : e.mode = 16384
    · rw [keyOf, if_pos q] at ret
      first | ((with_reducible refine ifP ?hc ?_); (case hc => exact (by rw [q]; decide))) | rw [if_pos (by rw [q]; decide)]
      walk_at "go"
      exact ret _ _ _ st.step st.own
    · rw [keyOf, if_neg q] at ret
      first | ((with_reducible refine ifN ?hc ?_); (case hc => exact (by simp; omega))) | rw [if_neg (by simp; omega)]
      walk_at "go"
      rw [List.append_nil]
      exact ret _ _ _ st.step st.own
  case d => kernel_rfl!
  all_goals walk_at "kr"
end
end
-- F7
section
section
variable {prog : Program} {w : World} {mg mb : Str → Option Value} {p : Program} {loose : List Str} {A : Around} {E : Value → Shared → Prop}
  {g h : Heap} {mu : List (Addr × Obj)} {gs : Array GenState} {dr : Drawn} {tk : Nat} {os : OsState}
theorem write_spec {S kn kd : Addr} {o1 o2 : Obj} {items : List Thing} {b : BY} {t u : Tok} {Q : Value → Shared → Prop} {n : Nat} (C : Cx w mg mb p loose g) (rm : Rm A (n + 4)) (ow : Own g h [(kn, o1), (kd, o2)])
    (I : StoreAt g S kn kd) (F : StF prog w g kn kd o1 o2 items) (hz : items.length ≤ 50000) (hc : b.length ≤ 900)
    (ret : ∀ o1' o2' g' h' tk' t', Step [kn, kd] g h g' h' → Own g' h' [(kn, o1'), (kd, o2')] → StF prog w g' kn kd o1' o2' (pushT items (.blob b)) → Q (.bytes (idOf (pushT items (.blob b)) (.blob b)).toArray t') ⟨h', gs, dr, tk', os⟩) :
    wpAny (model prog w) A (call (.ref 416) [.ref S, .bytes ([98, 108, 111, 98] : BY).toArray t, .bytes b.toArray u]) Q E ⟨h, gs, dr, tk, os⟩ := by
  obtain ⟨H, t0, I1, I2⟩ := I
  refine wpAny_call ?_
  refine enter (f := 416) (fd := fdOf w 416) (body := bodyOf w 416) (binds := [("self", .ref S), ("kind", .bytes ([98, 108, 111, 98] : BY).toArray t), ("content", .bytes b.toArray u)]) C ow rm (oc := .type "function") (od := none) (osl := #[]) ?a ?b ?c ?d ?e ?walk ?f ?g ?i ?j
  case walk =>
    intro E h₁ tk₁ rm st Z0 z0
    walk_at "sx"
    walk_at "go"
    first | ((with_reducible refine ifN ?hc ?_); (case hc => exact (by decide))) | rw [if_neg (by decide)]
    walk_at "go"
    rename_i tk2 t2
    refine keep_spec (th := .blob b) C (by assumption) st.own ⟨H, t0, I1, I2⟩ F hz hc (fun g' x n t' _ hg => ⟨x, n, _, _, rfl, hg⟩) fun o1' o2' g' h' tk' t' sp ow F' => ?_
    have st := St.call (mu₁ := [(kn, o1), (kd, o2)]) (mu₂ := []) st sp ow rfl
    walk_at "go"
    exact ret _ _ _ _ _ _ st.step st.own F'
  all_goals walk_at "kr"

/-- a store that is only read from here on -/
structure StR (prog : Program) (w : World) (g : Heap) (S : Addr) (items : List Thing) : Prop where
  ex : ∃ kn kd kvs, StoreAt g S kn kd ∧ DF prog w g kd kvs ∧ IsKept g kvs items
  z : items.length ≤ 50000
theorem StR.sub {g g' : Heap} {S : Addr} {items : List Thing} (R : StR prog w g S items) (k : Sub g g') : StR prog w g' S items :=
  let ⟨kn, kd, kvs, a, b, c⟩ := R.ex; ⟨⟨kn, kd, kvs, a.sub k, b.sub k, c.sub k⟩, R.z⟩

theorem row_of_spec {S : Addr} {items : List Thing} {i : Nat} {th : Thing} {t : Tok} {Q : Value → Shared → Prop} {n : Nat} (C : Cx w mg mb p loose g) (k : Sub g h) (rm : Rm A (n + 1)) (R : StR prog w g S items) (hi : items[i]? = some th)
    (ret : ∀ h' tk' v, Step [] g h g h' → Own g h' [] → IsKp g v th → Q v ⟨h', gs, dr, tk', os⟩) :
    wpAny (model prog w) A (call (.ref 465) [.ref S, .bytes (be4 (i + 1)).toArray t]) Q E ⟨h, gs, dr, tk, os⟩ := by
  obtain ⟨⟨kn, kd, kvs, ⟨H, t0, I1, I2⟩, D, K⟩, hz⟩ := R
  obtain ⟨v, hv, hk⟩ := K.get (by omega) hi
  have hh : handedIn v = true := by
    cases th with
    | blob b => obtain ⟨x, n, t1, t2, rfl, _⟩ := hk; rfl
    | tree es => obtain ⟨x, n, t1, y, rfl, _⟩ := hk; rfl
  refine wpAny_call ?_
  refine enter (f := 465) (fd := fdOf w 465) (body := bodyOf w 465) (binds := [("self", .ref S), ("oid", .bytes (be4 (i + 1)).toArray t)]) C (Own.nil k) rm (oc := .type "function") (od := none) (osl := #[]) ?a ?b ?c ?d ?e ?walk ?f ?g ?i ?j
  case walk =>
    intro E h₁ tk₁ rm st Z0 z0
    walk_at "sx"
    walk_at "go"
    rw [hv, if_neg (by simp)]
    walk_at "go"
    exact ret _ _ _ st.step st.own hk
  all_goals walk_at "kr"

theorem of_kind_spec {S : Addr} {items : List Thing} {i : Nat} {es : List En} {t u : Tok} {Q : Value → Shared → Prop} {n : Nat} (C : Cx w mg mb p loose g) (k : Sub g h) (rm : Rm A (n + 2)) (R : StR prog w g S items) (hi : items[i]? = some (.tree es))
    (ret : ∀ h' tk' v, Step [] g h g h' → Own g h' [] → IsTr g v es → Q v ⟨h', gs, dr, tk', os⟩) :
    wpAny (model prog w) A (call (.ref 486) [.ref S, .bytes (be4 (i + 1)).toArray t, .bytes ([116, 114, 101, 101] : BY).toArray u]) Q E ⟨h, gs, dr, tk, os⟩ := by
  have R' := R
  obtain ⟨⟨kn, kd, kvs, ⟨H, t0, I1, I2⟩, D, K⟩, hz⟩ := R'
  refine wpAny_call ?_
  refine enter (f := 486) (fd := fdOf w 486) (body := bodyOf w 486) (binds := [("self", .ref S), ("oid", .bytes (be4 (i + 1)).toArray t), ("kind", .bytes ([116, 114, 101, 101] : BY).toArray u)]) C (Own.nil k) rm (oc := .type "function") (od := none) (osl := #[]) ?a ?b ?c ?d ?e ?walk ?f ?g ?i ?j
  case walk =>
    intro E h₁ tk₁ rm st Z0 z0
    walk_at "sx"
    refine xAssignTup ?_
    walk_at "go"
    refine row_of_spec C st.own.keep (by assumption) R hi fun h' tk' v sp ow hk => ?_
    have st := st.call (mu₁ := []) sp ow rfl
    obtain ⟨x, n, t1, y, rfl, hx, ht⟩ := hk
    have hy : ∃ a, y = .ref a := let ⟨a, _, _, _, e, _⟩ := ht; ⟨a, e⟩
    refine aTup st (rm.hh) (st.own.keep _ _ hx) rfl rfl fun h' st => ?_
    obtain ⟨a, rfl⟩ := hy
    walk_at "go"
    first | ((with_reducible refine ifN ?hc ?_); (case hc => exact (by decide))) | rw [if_neg (by decide)]
    walk_at "go"
    obtain st : St _ _ _ _ _ _ _ _ := by assumption
    walk_at "go"
    exact ret _ _ _ st.step st.own ht
  all_goals walk_at "kr"

theorem tree_spec {S : Addr} {items : List Thing} {i : Nat} {es : List En} {t : Tok} {Q : Value → Shared → Prop} {n : Nat} (C : Cx w mg mb p loose g) (k : Sub g h) (rm : Rm A (n + 3)) (R : StR prog w g S items) (hi : items[i]? = some (.tree es))
    (ret : ∀ h' tk' v, Step [] g h g h' → Own g h' [] → IsTr g v es → Q v ⟨h', gs, dr, tk', os⟩) :
    wpAny (model prog w) A (call (.ref 500) [.ref S, .bytes (be4 (i + 1)).toArray t]) Q E ⟨h, gs, dr, tk, os⟩ := by
  have R' := R
  obtain ⟨⟨kn, kd, kvs, ⟨H, t0, I1, I2⟩, D, K⟩, hz⟩ := R'
  refine wpAny_call ?_
  refine enter (f := 500) (fd := fdOf w 500) (body := bodyOf w 500) (binds := [("self", .ref S), ("oid", .bytes (be4 (i + 1)).toArray t)]) C (Own.nil k) rm (oc := .type "function") (od := none) (osl := #[]) ?a ?b ?c ?d ?e ?walk ?f ?g ?i ?j
  case walk =>
    intro E h₁ tk₁ rm st Z0 z0
    walk_at "sx"
    walk_at "go"
    refine of_kind_spec C st.own.keep (by assumption) R hi fun h' tk' v sp ow ht => ?_
    have st := st.call (mu₁ := []) sp ow rfl
    walk_at "go"
    exact ret _ _ _ st.step st.own ht
  all_goals walk_at "kr"
end
end
-- B2T
section
section
variable {prog : Program} {w : World} {A : Around} {gE hE g h : Heap} {S : List Addr} {L : Addr} {m : Str → Option Value} {mu : List (Addr × Obj)} {gs : Array GenState} {dr : Drawn} {tk : Nat} {os : OsState}
theorem compLoopT {elt iter : Expr} {elts : List Expr} {x1 : Nat} {tp : Pos} {scope : Scope} {pos : Pos} {cenv : Env} {I D C : Addr} {fp : List Addr} {n : Nat} {P : Nat → Value → Prop} {Si : Nat → Heap → Prop} {R : Result → Shared → Prop} {oI : Obj} {h₀ : Heap}
    (W : Walks prog w A I fp [I] n P Si) (hn : n ≤ sizeLine) (hfp : ∀ b ∈ fp, b = I ∨ ∃ o, g.get? b = some o) (hob : ∀ i h, Si i h → ∃ o, h.get? I = some o)
    (st : St g h S g C m ((D, lst #[] 0) :: (I, oI) :: mu) h₀) (h0 : Si 0 h₀)
    (J : Nat → Heap → List Value → List (Addr × Obj) → Prop) (j0 : J 0 g [] mu)
    (turn : ∀ (i : Nat) (v : Value) (g₁ h₁ : Heap) (m₁ : Str → Option Value) (mu₁ : List (Addr × Obj)) (tk₁ : Nat) (oI : Obj) (ys : List Value) (na : Nat) (E : Value → Shared → Prop), i < n → P i v → J i g₁ ys mu₁ → Sub g g₁ → ys.length ≤ i → St g h S g₁ C m₁ ((D, lst ys.toArray na) :: (I, oI) :: mu₁) h₁ →
      wpAny (model prog w) A (assign (.Tuple elts x1 tp) cenv v) (fun _ s₂ => wpAny (model prog w) A (eval elt cenv) (fun y s₄ => ∃ g₂ h₂ m₂ mu₂ tk₂, s₄ = ⟨h₂, gs, dr, tk₂, os⟩ ∧ Sub g₁ g₂ ∧ St g h S g₂ C m₂ ((D, lst ys.toArray na) :: (I, oI) :: mu₂) h₂ ∧ J (i + 1) g₂ (ys ++ [y]) mu₂) E s₂) E ⟨h₁, gs, dr, tk₁, os⟩)
    (done : ∀ g₁ h₁ m₁ mu₁ tk₁ ys na, J n g₁ ys mu₁ → Sub g g₁ → ys.length ≤ n → St g h S g₁ C m₁ ((D, lst ys.toArray na) :: mu₁) h₁ → R (.ok .next) ⟨h₁, gs, dr, tk₁, os⟩)
    (ht : ∀ i h' tk' v (E : Value → Shared → Prop) (Q : Unit → Shared → Prop), Si i h' → Q () ⟨h', gs, dr, tk', os⟩ → wpAny (model prog w) A (letOwnedTupleGo (.Tuple elts x1 tp) (.ref I) v) Q E ⟨h', gs, dr, tk', os⟩) : codeAny (model prog w) A (.compLoop (.ListComp elt [⟨.Tuple elts x1 tp, iter, [], 0⟩] scope pos) 0 (.ref I) (.ref D) cenv) R ⟨h₀, gs, dr, tk, os⟩ := by
  refine LCp.codeAny_compLoop_pair (CompJ n Si h S g C D I gs dr os J) ?_ n
    ⟨0, g, h₀, m, mu, tk, oI, [], 0, rfl, Nat.zero_le _, rfl, j0, Sub.rfl, Nat.le_refl _, st, h0⟩
  rintro k s' ⟨i, g₁, h₁, m₁, mu₁, tk₁, oI, ys, na, rfl, hi, rfl, j, sg, hlen, st₁, si⟩
  by_cases hlt : i < n
  · refine W.item i _ _ _ hlt si fun v h₂ tk₂ hp si₂ hk => ?_
    dsimp only
    obtain ⟨o', ho'⟩ := hob _ _ si₂
    have st₂ : St g h S g₁ C m₁ ((D, lst ys.toArray na) :: (I, o') :: mu₁) h₂ := by
      have a := (st₁.perm (.swap ..)).move (fun b x q e => hk b x (by simpa using q) e) ho'
      exact a.perm (.swap ..)
    have back : ∀ (s₄ : Shared) (ys' : List Value), (∃ g₂ h₂ m₂ mu₂ tk₂ na', s₄ = ⟨h₂, gs, dr, tk₂, os⟩ ∧ Sub g₁ g₂ ∧ ys'.length ≤ i + 1 ∧ St g h S g₂ C m₂ ((D, lst ys'.toArray na') :: (I, o') :: mu₂) h₂ ∧ J (i + 1) g₂ ys' mu₂) →
        ∃ k', k' < n - i ∧ CompJ n Si h S g C D I gs dr os J k' s₄ := by
      rintro s₄ ys' ⟨g₂, h₃, m₂, mu₂, tk₃, na', rfl, sg₂, hl, st₃, j₂⟩
      refine ⟨n - (i + 1), by omega, i + 1, g₂, h₃, m₂, mu₂, tk₃, o', ys', na', rfl, hlt, rfl, j₂, sg.trans sg₂, hl, st₃, W.frame _ _ _ si₂ fun b hb o e => ?_⟩
      rcases hfp b hb with rfl | ⟨x, hx⟩
      · rw [ho'] at e; cases e
        exact (st₃.own.mem _ (.tail _ (.head _))).1
      · have h1 := st₂.own.keep b x (sg b x hx)
        rw [h1] at e; cases e
        exact st₃.own.keep b _ (sg₂ b _ (sg b _ hx))
    refine ht _ _ _ _ _ _ si₂ ?_
    refine wpAny_mono (turn i v g₁ h₂ m₁ mu₁ tk₂ o' ys na _ hlt hp j sg hlen st₂) (fun _ s₃ q => ?_) fun _ _ e => e
    · refine wpAny_mono q (fun y s₅ z => ?_) fun _ _ e => e
      obtain ⟨g₂, h₃, m₂, mu₂, tk₃, rfl, sg₂, st₃, j₂⟩ := z
      refine append_at (s := ⟨h₃, gs, dr, tk₃, os⟩) (st₃.own.mem _ (.head _)).1 (fun h₄ hs₄ ho₄ => ?_) (by simp; omega)
      refine back _ (ys ++ [y]) ⟨g₂, h₄, m₂, mu₂, tk₃, na + 1, rfl, sg₂, by simp; omega, ?_, j₂⟩
      have := st₃.upd 0 (o' := lst (ys ++ [y]).toArray (na + 1)) rfl hs₄ (by rw [ho₄]; simp [lst])
      exact this
  · have e : i = n := by omega
    subst e
    refine W.done _ _ _ si fun h₂ tk₂ hk => ?_
    refine done g₁ h₂ m₁ mu₁ tk₂ ys na j sg hlen ?_
    exact (st₁.perm (.swap ..)).moveD fun b x q e => hk b x (by simpa using q) e

theorem compBlkT {E : Value → Shared → Prop} {elt iter : Expr} {elts : List Expr} {x1 : Nat} {tp : Pos} {scope : Scope} {pos : Pos} {env : Env} {cl : List (Str × Addr)} {I : Addr} {fp : List Addr} {n : Nat} {P : Nat → Value → Prop} {Si : Nat → Heap → Prop} {oI : Obj} {Q : Value → Shared → Prop}
    (use : Option (Str × Pos)) (W : Walks prog w A I fp [I] n P Si) (hn : n ≤ sizeLine) (hfp : ∀ b ∈ fp, b = I ∨ ∃ o, g.get? b = some o) (hob : ∀ i h, Si i h → ∃ o, h.get? I = some o)
    (hcell : ∀ x ∈ scope.names, x.2 ≠ .cell) (hkind : scope.kind = .function) (hL : env.locals = L)
    (huse : ∀ y py, use = some (y, py) → env.kindOf y = some .local ∧ env.scope.kind = .function)
    (st : St gE hE S g L m ((I, oI) :: mu) h) (h0 : Si 0 h)
    (J : Nat → Heap → List Value → List (Addr × Obj) → Prop) (j0 : J 0 g [] mu)
    (turn : ∀ (C i : Nat) (v : Value) (g₁ h₁ : Heap) (m₁ : Str → Option Value) (mu₁ : List (Addr × Obj)) (tk₁ : Nat) (oI : Obj) (ys : List Value) (na : Nat) (E : Value → Shared → Prop), i < n → P i v → J i g₁ ys mu₁ → Sub g g₁ → ys.length ≤ i → (∀ b o, h.get? b = some o → b ∉ I :: mu.map (·.1) → h₁.get? b = some o) → St g h (I :: mu.map (·.1)) g₁ C m₁ ((h.objs.size, lst ys.toArray na) :: (I, oI) :: mu₁) h₁ →
      wpAny (model prog w) A (assign (.Tuple elts x1 tp) (compEnvC scope cl C env) v) (fun _ s₂ => wpAny (model prog w) A (eval elt (compEnvC scope cl C env)) (fun y s₄ => ∃ g₂ h₂ m₂ mu₂ tk₂, s₄ = ⟨h₂, gs, dr, tk₂, os⟩ ∧ Sub g₁ g₂ ∧ St g h (I :: mu.map (·.1)) g₂ C m₂ ((h.objs.size, lst ys.toArray na) :: (I, oI) :: mu₂) h₂ ∧ J (i + 1) g₂ (ys ++ [y]) mu₂) E s₂) E ⟨h₁, gs, dr, tk₁, os⟩)
    (done : ∀ g₁ h₁ mu₁ tk₁ ys na, J n g₁ ys mu₁ → Sub g g₁ → ys.length ≤ n → match use with
      | none => St gE hE S g₁ L m ((h.objs.size, lst ys.toArray na) :: mu₁) h₁ → Q (.ref h.objs.size) ⟨h₁, gs, dr, tk₁, os⟩
      | some (y, _) => St gE hE S g₁ L (upd m y (.ref h.objs.size)) ((h.objs.size, lst ys.toArray na) :: mu₁) h₁ → Q .none ⟨h₁, gs, dr, tk₁, os⟩)
    (ht : ∀ i h' tk' v (E : Value → Shared → Prop) (Q : Unit → Shared → Prop), Si i h' → Q () ⟨h', gs, dr, tk', os⟩ → wpAny (model prog w) A (letOwnedTupleGo (.Tuple elts x1 tp) (.ref I) v) Q E ⟨h', gs, dr, tk', os⟩) :
    wpAny (model prog w) A (newList []) (fun acc s₃ => wpAny (model prog w) A (newFunctionEnv scope env.globals cl [] env.qual none .none (some env)) (fun cenv s₄ =>
      codeAny (model prog w) A (.compStart (.ListComp elt [⟨.Tuple elts x1 tp, iter, [], 0⟩] scope pos) 0 (.ref I) acc { cenv with scope := relabel scope env }) (compPost (model prog w) A E (compUse env use) Q acc cenv.locals) s₄) E s₃) E ⟨h, gs, dr, tk, os⟩ := by
  refine wpAny_newObj_type (s := ⟨h, gs, dr, tk, os⟩) (wpAny_newFunctionEnv hcell (by intro y hy; simp at hy) (fun h₁ hns₁ hsb₁ => ?_) hkind)
  dsimp only at hns₁ hsb₁ ⊢
  generalize hC : (h.push { cls := .type "list", dict := none, data := .seq ([] : List Value).toArray }).objs.size = C at hns₁ hsb₁ ⊢
  rw [Heap.size_push] at hC
  -- the two new objects, in the block's own sight
  have k₁ : ∀ b o, h.get? b = some o → h₁.get? b = some o := fun b o e => hsb₁.extBut b o (c1 (Heap.lt_size e) hC) (Heap.get?_push_of_some _ (Heap.get?_push_of_some _ e))
  have hD : h₁.get? h.objs.size = some (lst #[] 0) := hsb₁.extBut _ _ (c2 hC) (Heap.get?_push_of_some _ (Heap.get?_push_size _ rfl))
  have gnone : ∀ a, h.objs.size ≤ a → g.get? a = none := fun a ha => by
    cases q : g.get? a with
    | none => rfl
    | some x => exact absurd (Heap.lt_size (st.own.keep _ _ q)) (Nat.not_lt.mpr ha)
  have si : St g h (I :: mu.map (·.1)) g C (fun x => ([] : List (Str × Value)).reverse.lookup x) ((h.objs.size, lst #[] 0) :: (I, oI) :: mu) h₁ := by
    refine ⟨⟨st.own.keep.trans k₁, fun p hp => ?_, ?_⟩, ⟨Sub.rfl, fun _ _ => rfl, fun b o e _ => k₁ b o e, Nat.le_of_lt (Nat.lt_of_le_of_lt (c3 hC) hns₁.lt)⟩, hns₁, gnone _ (c3 hC), c3 hC, fun p hp => ?_⟩
    · rcases List.mem_cons.mp hp with rfl | hp
      · exact ⟨hD, gnone _ (Nat.le_refl _)⟩
      · exact ⟨k₁ _ _ (st.own.mem p hp).1, (st.own.mem p hp).2⟩
    · rw [List.map_cons, List.nodup_cons]
      refine ⟨fun q => ?_, st.own.nd⟩
      obtain ⟨p, hp, e⟩ := List.mem_map.mp q
      have := Heap.lt_size (st.own.mem p hp).1
      rw [e] at this
      exact Nat.lt_irrefl _ this
    · rcases List.mem_cons.mp hp with rfl | hp
      · exact ⟨c2 hC, .inr (Nat.le_refl _)⟩
      · have := Heap.lt_size (st.own.mem p hp).1
        exact ⟨c1 this hC, .inl (by have := List.mem_map_of_mem (f := (·.1)) hp; simpa using this)⟩
  have loop : codeAny (model prog w) A (.compLoop (.ListComp elt [⟨.Tuple elts x1 tp, iter, [], 0⟩] scope pos) 0 (.ref I) (.ref h.objs.size) (compEnvC scope cl C env)) (compPost (model prog w) A E (compUse env use) Q (.ref h.objs.size) C) ⟨h₁, gs, dr, tk + ([] : List (Str × Value)).length, os⟩ := by
    have h0' : Si 0 h₁ := W.frame _ _ _ h0 fun b _ o e => k₁ b o e
    refine compLoopT W hn hfp hob si h0' J j0 (fun i v g₁ h₂ m₁ mu₁ tk₁ oI ys na E' a b c d e f => turn C i v g₁ h₂ m₁ mu₁ tk₁ oI ys na E' a b c d e f.step.frame f) (fun g₁ h₂ m₁ mu₁ tk₁ ys na j sg hl si₂ => ?_) ht
    have so := st.outer si₂
    have nC := si₂.gl
    have CL : C ≠ L := c4 st.ns.lt hC
    have mC : ∀ p ∈ (h.objs.size, lst ys.toArray na) :: mu₁, p.1 ≠ C := fun p hp => (si₂.ml p hp).1
    have hC' : hE.objs.size ≤ C := c5 st.step.size hC
    have dn := done g₁
    cases use with
    | none => exact ⟨m₁, si₂.ns, fun h₃ hs => dn h₃ mu₁ tk₁ ys na j sg hl (so.other nC CL mC hC' hs)⟩
    | some yp =>
      obtain ⟨y, py⟩ := yp
      obtain ⟨u1, u2⟩ := huse y py rfl
      subst hL
      show wpAny _ _ (assign (.Name y py) env (.ref h.objs.size)) _ _ _
      refine wpAny_assign_Name (wpAny_storeName_local u1 so.ns (fun h₃ hn₃ hs₃ => ⟨m₁, si₂.ns.sameBut hs₃ CL, fun h₄ hs₄ => ?_⟩) (by rw [u2]; rfl))
      exact dn h₄ mu₁ (tk₁ + 1) ys na j sg hl ((so.set hn₃ hs₃).other nC CL mC hC' hs₄)
  exact codeAny_compStart_list loop (W.self 0 _ _ _ (W.frame _ _ _ h0 fun b _ o e => k₁ b o e) loop)

end
end
-- B3T
section
section
variable {prog : Program} {w : World} {A : Around} {gE hE g h : Heap} {S : List Addr} {L : Addr} {m : Str → Option Value} {mu : List (Addr × Obj)} {gs : Array GenState} {dr : Drawn} {tk : Nat} {os : OsState}
/-- a comprehension over a list, with a tuple target -/
theorem compIT {E : Value → Shared → Prop} {Q : Value → Shared → Prop} {elt iter : Expr} {elts : List Expr} {x1 : Nat} {tp : Pos} {scope : Scope} {pos : Pos} {env : Env} {cl : List (Str × Addr)} {l : Addr} {items : Array Value}
    (hh : A.handled = none) (hl : g.IsList l items) (hn : items.size ≤ sizeLine) (hcell : (scope.names.all fun x => x.2 != .cell) = true) (hkind : scope.kind = .function) (hL : env.locals = L)
    (st : St gE hE S g L m mu h) (J : Nat → Heap → List Value → List (Addr × Obj) → Prop) (j0 : J 0 g [] mu)
    (turn : ∀ (h₀ : Heap) (S₀ : List Addr) (C D I i : Nat) (v : Value) (g₁ h₁ : Heap) (m₁ : Str → Option Value) (mu₁ : List (Addr × Obj)) (tk₁ : Nat) (oI₀ oI : Obj) (ys : List Value) (na : Nat) (E : Value → Shared → Prop), i < items.size → items[i]? = some v → J i g₁ ys mu₁ → Sub g g₁ → ys.length ≤ i →
      (∀ b o, h₀.get? b = some o → b ∉ S₀ → h₁.get? b = some o) → St gE hE S g L m ((I, oI₀) :: mu) h₀ → S₀ = I :: mu.map (·.1) → St g h₀ S₀ g₁ C m₁ ((D, lst ys.toArray na) :: (I, oI) :: mu₁) h₁ →
      ∀ Z : Value → Shared → Prop, (∀ y g₂ h₂ m₂ mu₂ tk₂, Sub g₁ g₂ → St g h₀ S₀ g₂ C m₂ ((D, lst ys.toArray na) :: (I, oI) :: mu₂) h₂ → J (i + 1) g₂ (ys ++ [y]) mu₂ → Z y ⟨h₂, gs, dr, tk₂, os⟩) →
      wpAny (model prog w) A (assign (.Tuple elts x1 tp) (compEnvC scope cl C env) v) (fun _ s₂ => wpAny (model prog w) A (eval elt (compEnvC scope cl C env)) Z E s₂) E ⟨h₁, gs, dr, tk₁, os⟩)
    (done : ∀ D g₁ h₁ mu₁ tk₁ ys na, J items.size g₁ ys mu₁ → Sub g g₁ → ys.length ≤ items.size → hE.objs.size ≤ D → St gE hE S g₁ L m ((D, lst ys.toArray na) :: mu₁) h₁ → Q (.ref D) ⟨h₁, gs, dr, tk₁, os⟩) :
    wpAny (model prog w) A (pyIter (.ref l)) (fun it s₂ => wpAny (model prog w) A (newList []) (fun acc s₃ => wpAny (model prog w) A (newFunctionEnv scope env.globals cl [] env.qual none .none (some env)) (fun cenv s₄ =>
      codeAny (model prog w) A (.compStart (.ListComp elt [⟨.Tuple elts x1 tp, iter, [], 0⟩] scope pos) 0 it acc { cenv with scope := relabel scope env }) (compPost (model prog w) A E (compUse env none) Q acc cenv.locals) s₄) E s₃) E s₂) E ⟨h, gs, dr, tk, os⟩ := by
  have hls : h.IsList l items := hl.at fun o e => st.own.keep l o e
  obtain ⟨ol, hol, _⟩ := id hl
  have hne : l ≠ h.objs.size := Nat.ne_of_lt (Heap.lt_size (st.own.keep _ _ hol))
  have st' := st.new { cls := .type "list_iterator", data := .fields #[.ref l, .int 0 0] }
  refine wpAny_pyIter_list (s := ⟨h, gs, dr, tk, os⟩) hls ?_
  refine compBlkT none (Walks.list hh _ l hne items) hn ?_ (fun i h x => let ⟨o, ho, _⟩ := x.1; ⟨o, ho⟩) (fun x hx => by simpa using List.all_eq_true.mp hcell x hx) hkind hL (fun y py e => by cases e) st' ⟨⟨_, Heap.get?_push_size _ rfl, rfl, rfl⟩, hls.at fun o e => Heap.get?_push_of_some _ e⟩ J j0
    (fun C i v g₁ h₁ m₁ mu₁ tk₁ oI' ys na E a b c d e f st₁ => turn _ _ C _ _ i v g₁ h₁ m₁ mu₁ tk₁ _ oI' ys na E a b c d e f st' rfl st₁ _ fun y g₂ h₂ m₂ mu₂ tk₂ x y z => ⟨g₂, h₂, m₂, mu₂, tk₂, rfl, x, y, z⟩) (fun g₁ h₁ mu₁ tk₁ ys na a b c => done _ g₁ h₁ mu₁ tk₁ ys na a b c st'.step.size)
    (fun i h' tk' v E Q si hq => letGo_listiter (s' := ⟨h', gs, dr, tk', os⟩) si.1 hq)
  intro b hb
  rcases List.mem_cons.mp hb with e | e
  · exact .inl e
  · exact .inr ⟨ol, by rw [List.mem_singleton.mp e]; exact hol⟩
end
end
-- P3
section
theorem uniqKey {l : List (BY × BY)} (nd : (l.map (·.1)).Nodup) {k a b : BY} (ha : (k, a) ∈ l) (hb : (k, b) ∈ l) : a = b := by
  induction l with
  | nil => cases ha
  | cons x l ih =>
    rw [List.map_cons, List.nodup_cons] at nd
    rcases List.mem_cons.mp ha with ha | ha <;> rcases List.mem_cons.mp hb with hb | hb
    · rw [← ha] at hb; cases hb; rfl
    · exact absurd (List.mem_map.mpr ⟨_, hb, by rw [← ha]⟩) nd.1
    · exact absurd (List.mem_map.mpr ⟨_, ha, by rw [← hb]⟩) nd.1
    · exact ih nd.2 ha hb
theorem NodeOk.ext {items items' : List Thing} {new new' : List (BY × BY)} {q o : BY} (N : NodeOk items new q o) (h : items <+: items') (hn : ∀ x ∈ new, x ∈ new') : NodeOk items' new' q o :=
  let ⟨es, a, b, c, d⟩ := N.ex; ⟨es, a.ext h, b, c, fun e he => (d e he).mono hn⟩
theorem Built.ext {items items' : List Thing} {new : List (BY × BY)} {p oid : BY} (B : Built items new p oid) (h : items <+: items') : Built items' new p oid :=
  ⟨B.mem, fun q o hq => (B.node q o hq).ext h fun _ x => x, fun q o hq => (B.reach q o hq).imp id fun ⟨r, o', es, e, a, b, c⟩ => ⟨r, o', es, e, a, b.ext h, c⟩, B.nd, B.below⟩
theorem Built.row {items : List Thing} {new : List (BY × BY)} {p oid q o : BY} {es : List En} (B : Built items new p oid) (h : (q, o) ∈ new) (T : TreeAt items o es) : es.length ≤ 4 ∧ (es.map En.name).Nodup ∧ ∀ e ∈ es, RowOf new q e := by
  obtain ⟨es', T', a, b, c⟩ := (B.node q o h).ex
  rw [T.uniq T']
  exact ⟨a, b, c⟩
theorem RowOf.dir {new : List (BY × BY)} {f : BY} {e : En} (R : RowOf new f e) (h : e.mode = 16384) : e.name ∈ dirN f ∧ (joined f e.name, e.oid) ∈ new := by
  rcases R with ⟨a, _⟩ | ⟨_, a⟩
  · omega
  · exact a
theorem Built.inF {items : List Thing} {new : List (BY × BY)} {p oid q o : BY} (B : Built items new p oid) (h : (q, o) ∈ new) : q ∈ FsL := (B.below q (List.mem_map.mpr ⟨_, h, rfl⟩)).1
theorem fact8_all : (FsL.all fun f => (dirN f).all fun n => joined f n != [] && FsL.all fun f' => (dirN f').all fun n' => joined f n != joined f' n' || (f == f' && n == n')) = true := by decide +kernel
theorem fPar {f n : BY} (hf : f ∈ FsL) (hn : n ∈ dirN f) : joined f n ≠ [] ∧ ∀ f' n', f' ∈ FsL → n' ∈ dirN f' → joined f n = joined f' n' → f = f' ∧ n = n' := by
  have := all_mem (all_mem fact8_all hf) hn
  simp only [Bool.and_eq_true, bne_iff_ne] at this
  refine ⟨this.1, fun f' n' hf' hn' e => ?_⟩
  have := all_mem (all_mem this.2 hf') hn'
  simp only [Bool.or_eq_true, bne_iff_ne, Bool.and_eq_true, beq_iff_eq] at this
  rcases this with q | q
  · exact absurd e q
  · exact q
theorem fact9_all : (FsL.all fun f => (dirN f).all fun n => FsL.all fun z => !Bel z (joined f n) || z == joined f n || Bel z f) = true := by decide +kernel
theorem fUp {f n z : BY} (hf : f ∈ FsL) (hn : n ∈ dirN f) (hz : z ∈ FsL) (h : Bel z (joined f n) = true) (ne : z ≠ joined f n) : Bel z f = true := by
  have := all_mem (all_mem (all_mem fact9_all hf) hn) hz
  rw [h] at this
  simpa [ne] using this
noncomputable def touchP (p s : BY) : Bool := p == [] || s == p || (p ++ [47]).isPrefixOf s
theorem fact10_all : (FsL.all fun f => (fileN f).all fun n => FsL.all fun z => !touchP z (joined f n) || Bel z f) = true := by decide +kernel
theorem fTouch {f n z : BY} (hf : f ∈ FsL) (hn : n ∈ fileN f) (hz : z ∈ FsL) (h : touchP z (joined f n) = true) : Bel z f = true := by
  have := all_mem (all_mem (all_mem fact10_all hf) hn) hz
  rw [h] at this
  simpa using this
theorem Built.child {items : List Thing} {new : List (BY × BY)} {oid q o : BY} (B : Built items new [] oid) (h : (q, o) ∈ new) : (q = [] ∧ o = oid) ∨ ∃ r o' es e, (r, o') ∈ new ∧ TreeAt items o' es ∧ e ∈ es ∧ e.mode = 16384 ∧ joined r e.name = q ∧ e.oid = o ∧ e.name ∈ dirN r ∧ r ∈ FsL := by
  rcases B.reach q o h with rfl | ⟨r, o', es, e, a, b, c, d, f⟩
  · exact .inl ⟨rfl, uniqKey B.nd h B.mem⟩
  · have R := ((B.row a b).2.2 e c).dir d
    refine .inr ⟨r, o', es, e, a, b, c, d, f, ?_, R.1, B.inF a⟩
    exact uniqKey B.nd (f ▸ R.2) h

/-- the folders that one folder's entries tell -/
noncomputable def kidsOf (f : BY) (es : List En) : List (BY × BY) := (es.filter fun e => e.mode == 16384).map fun e => (joined f e.name, e.oid)
theorem mem_kids {f : BY} {es : List En} {x : BY × BY} : x ∈ kidsOf f es ↔ ∃ e ∈ es, e.mode = 16384 ∧ x = (joined f e.name, e.oid) := by
  unfold kidsOf
  rw [List.mem_map]
  constructor
  · rintro ⟨e, he, rfl⟩
    have := List.mem_filter.mp he
    exact ⟨e, this.1, by simpa using this.2, rfl⟩
  · rintro ⟨e, he, hm, rfl⟩
    exact ⟨e, List.mem_filter.mpr ⟨he, by simpa using hm⟩, rfl⟩
structure FInv (items : List Thing) (new : List (BY × BY)) (oid : BY) (fd wt : List (BY × BY)) : Prop where
  sub : ∀ x ∈ fd ++ wt, x ∈ new
  nd : ((fd ++ wt).map (·.1)).Nodup
  root : (([] : BY), oid) ∈ fd ++ wt
  par : ∀ k ∈ (fd ++ wt).map (·.1), k = [] ∨ ∃ r ∈ fd.map (·.1), ∃ n ∈ dirN r, k = joined r n
  cl : ∀ q o, (q, o) ∈ fd → ∀ es, TreeAt items o es → ∀ e ∈ es, e.mode = 16384 → (joined q e.name, e.oid) ∈ fd ++ wt
theorem FInv.start {items : List Thing} {new : List (BY × BY)} {oid : BY} (B : Built items new [] oid) : FInv items new oid [] [([], oid)] :=
  ⟨fun x hx => by simp at hx; rw [hx]; exact B.mem, by simp, by simp, fun k hk => by simp at hk; exact .inl hk, fun q o h => by simp at h⟩
theorem FInv.len {items : List Thing} {new : List (BY × BY)} {oid : BY} {fd wt : List (BY × BY)} (B : Built items new [] oid) (I : FInv items new oid fd wt) : fd.length + wt.length ≤ 4 := by
  have := nodup_len (k := FsL) I.nd fun k hk => by
    obtain ⟨x, hx, rfl⟩ := List.mem_map.mp hk
    exact B.inF (q := x.1) (o := x.2) (I.sub x hx)
  rw [List.length_map, List.length_append] at this
  exact this
theorem FInv.turn {items : List Thing} {new : List (BY × BY)} {oid here o : BY} {fd wt : List (BY × BY)} {es : List En} (B : Built items new [] oid) (I : FInv items new oid fd (wt ++ [(here, o)])) (T : TreeAt items o es) : FInv items new oid (fd ++ [(here, o)]) (wt ++ kidsOf here es) := by
  have hn : (here, o) ∈ new := I.sub _ (by simp)
  have hf := B.inF hn
  obtain ⟨_, nn, rows⟩ := B.row hn T
  have old : ∀ {x}, x ∈ fd ++ (wt ++ [(here, o)]) → x ∈ fd ++ [(here, o)] ++ (wt ++ kidsOf here es) := fun {x} hx => by
    simp only [List.mem_append, List.mem_singleton] at hx ⊢
    rcases hx with hx | hx | hx <;> simp [hx]
  have pm : (fd ++ [(here, o)] ++ (wt ++ kidsOf here es)).Perm ((fd ++ (wt ++ [(here, o)])) ++ kidsOf here es) := by
    simp only [List.append_assoc]
    refine List.Perm.append_left _ ?_
    exact (List.perm_middle (l₁ := wt)).symm
  have cases' : ∀ {x}, x ∈ fd ++ [(here, o)] ++ (wt ++ kidsOf here es) → x ∈ fd ++ (wt ++ [(here, o)]) ∨ x ∈ kidsOf here es := fun {x} hx => List.mem_append.mp (pm.mem_iff.mp hx)
  have hno : here ∉ fd.map (·.1) := fun q => by
    have nd := I.nd
    rw [List.map_append, List.nodup_append] at nd
    exact nd.2.2 here q here (by simp) rfl
  refine ⟨fun x hx => ?_, ?_, old I.root, fun k hk => ?_, fun q oq hq es' T' e he hm => ?_⟩
  · rcases cases' hx with hx | hx
    · exact I.sub x hx
    · obtain ⟨e, he, hm, rfl⟩ := mem_kids.mp hx
      exact ((rows e he).dir hm).2
  · refine (pm.map (·.1)).nodup_iff.mpr ?_
    rw [List.map_append, List.nodup_append]
    refine ⟨I.nd, ?_, fun a ha b hb e => ?_⟩
    · unfold kidsOf
      rw [List.map_map, List.Nodup, List.pairwise_map]
      rw [List.Nodup, List.pairwise_map] at nn
      refine (nn.sublist List.filter_sublist).imp fun {a b} ne e => ne ?_
      simp only [Function.comp_apply, joined_pfx] at e
      exact List.append_cancel_left e
    · subst e
      obtain ⟨x, hx, rfl⟩ := List.mem_map.mp hb
      obtain ⟨e, he, hm, rfl⟩ := mem_kids.mp hx
      have hd := ((rows e he).dir hm).1
      rcases I.par _ ha with q | ⟨r, hr, n, hn', q⟩
      · exact (fPar hf hd).1 q
      · obtain ⟨y, hy, rfl⟩ := List.mem_map.mp hr
        have hrF := B.inF (q := y.1) (o := y.2) (I.sub y (List.mem_append_left _ hy))
        have := ((fPar hf hd).2 y.1 n hrF hn' q).1
        exact hno (this ▸ hr)
  · obtain ⟨x, hx, rfl⟩ := List.mem_map.mp hk
    rcases cases' hx with hx | hx
    · rcases I.par x.1 (List.mem_map.mpr ⟨x, hx, rfl⟩) with q | ⟨r, hr, n, hn', q⟩
      · exact .inl q
      · exact .inr ⟨r, by rw [List.map_append]; exact List.mem_append_left _ hr, n, hn', q⟩
    · obtain ⟨e, he, hm, rfl⟩ := mem_kids.mp hx
      exact .inr ⟨here, by simp, e.name, ((rows e he).dir hm).1, rfl⟩
  · rcases List.mem_append.mp hq with hq | hq
    · exact old (I.cl q oq hq es' T' e he hm)
    · cases List.mem_singleton.mp hq
      rw [T'.uniq T] at he
      exact List.mem_append_right _ (List.mem_append_right _ (mem_kids.mpr ⟨e, he, hm, rfl⟩))
theorem FInv.all {items : List Thing} {new : List (BY × BY)} {oid : BY} {fd : List (BY × BY)} (B : Built items new [] oid) (I : FInv items new oid fd []) : (∀ x ∈ fd, x ∈ new) ∧ fd.length = new.length := by
  have sub : ∀ x ∈ fd, x ∈ new := fun x hx => I.sub x (by simpa using hx)
  have rev : ∀ (n : Nat) (q o : BY), 2 - rankF q = n → (q, o) ∈ new → (q, o) ∈ fd := by
    intro n
    induction n using Nat.strongRecOn with
    | ind n ih =>
      intro q o hr hq
      rcases B.child hq with ⟨rfl, rfl⟩ | ⟨r, o', es, e, a, b, c, d, f, g, hd, hF⟩
      · simpa using I.root
      · have hlt := (fDir hF hd).2.2.1
        rw [← joined_pfx, f] at hlt
        have h2 : rankF r ≤ 2 := by unfold rankF; split <;> (try split) <;> omega
        have := ih (2 - rankF r) (by omega) r o' rfl a
        have := I.cl r o' this es b e c d
        rw [f, g] at this
        simpa using this
  have nd1 : fd.Nodup := by
    have := I.nd
    rw [List.append_nil] at this
    exact List.Pairwise.of_map _ (fun a b ne e => ne (by rw [e])) this
  have nd2 : new.Nodup := List.Pairwise.of_map _ (fun a b ne e => ne (by rw [e])) B.nd
  exact ⟨sub, Nat.le_antisymm (nodup_len nd1 sub) (nodup_len nd2 fun x hx => rev _ x.1 x.2 rfl hx)⟩
end
-- P4
section
/-- what stands in ids below a folder, without the folder itself -/
structure Kids (items : List Thing) (new : List (BY × BY)) (p : BY) (us : List En) : Prop where
  row : ∀ e ∈ us, RowOf new p e ∧ IdB e.oid
  nn : (us.map En.name).Nodup
  node : ∀ q o, (q, o) ∈ new → NodeOk items new q o
  reach : ∀ q o, (q, o) ∈ new → (∃ e ∈ us, e.mode = 16384 ∧ joined p e.name = q) ∨ ∃ r o' es e, (r, o') ∈ new ∧ TreeAt items o' es ∧ e ∈ es ∧ e.mode = 16384 ∧ joined r e.name = q
  nd : (new.map (·.1)).Nodup
  below : ∀ k ∈ new.map (·.1), k ∈ FsL ∧ Bel p k = true ∧ k ≠ p
theorem key_name {p : BY} {new : List (BY × BY)} {a b : En} (hp : p ∈ FsL) (ha : RowOf new p a) (hb : RowOf new p b) (h : keyOf a = keyOf b) : a.name = b.name := by
  rcases ha with ⟨a1, a2⟩ | ⟨a1, a2, _⟩ <;> rcases hb with ⟨b1, b2⟩ | ⟨b1, b2, _⟩
  · rwa [keyOf, if_neg (by omega), keyOf, if_neg (by omega)] at h
  · rw [keyOf, if_neg (by omega), keyOf, if_pos b1] at h
    exact absurd (by rw [h]; simp) (fFile hp a2).1.1.s
  · rw [keyOf, if_pos a1, keyOf, if_neg (by omega)] at h
    exact absurd (by rw [← h]; simp) (fFile hp b2).1.1.s
  · rw [keyOf, if_pos a1, keyOf, if_pos b1] at h
    exact List.append_cancel_right h
theorem Kids.keys {items : List Thing} {new : List (BY × BY)} {p : BY} {us : List En} (hp : p ∈ FsL) (K : Kids items new p us) : (us.map keyOf).Nodup := by
  have nn := K.nn
  rw [List.Nodup, List.pairwise_map] at nn ⊢
  exact List.Pairwise.imp_of_mem (fun {a b} ha hb ne e => ne (key_name hp (K.row a ha).1 (K.row b hb).1 e)) nn
theorem Kids.key {items : List Thing} {new : List (BY × BY)} {p : BY} {us : List En} (hp : p ∈ FsL) (K : Kids items new p us) : ∀ e ∈ us, keyOf e ∈ keysF p := fun e he => by
  rcases (K.row e he).1 with ⟨a, b⟩ | ⟨a, b, _⟩
  · rw [keyOf, if_neg (by omega)]; exact (fFile hp b).2.2.1
  · rw [keyOf, if_pos a]; exact (fDir hp b).2.2.2.1
theorem Kids.len {items : List Thing} {new : List (BY × BY)} {p : BY} {us : List En} (hp : p ∈ FsL) (K : Kids items new p us) : us.length ≤ 4 := by
  have := nodup_len (k := keysF p) (K.keys hp) fun x hx => by obtain ⟨e, he, rfl⟩ := List.mem_map.mp hx; exact K.key hp e he
  rw [List.length_map] at this
  exact Nat.le_trans this (fKeys hp).1
theorem fact11_all : (FsL.all fun f => (keysF f).all fun x => (keysF f).all fun y => leB y x == decide ((keysF f).idxOf y ≤ (keysF f).idxOf x)) = true := by decide +kernel
theorem fLe {f x y : BY} (hf : f ∈ FsL) (hx : x ∈ keysF f) (hy : y ∈ keysF f) (h : (keysF f).idxOf x < (keysF f).idxOf y) : leB y x = false := by
  have := all_mem (all_mem (all_mem fact11_all hf) hx) hy
  rw [eq_of_beq this]
  exact decide_eq_false (by omega)
theorem oct8_len {m : Nat} : (oct8 m).length ≤ 6 := by unfold oct8; split <;> exact Nat.le_of_ble_eq_true rfl
theorem flat_len : ∀ {es : List En}, (∀ e ∈ es, e.name.length ≤ 3 ∧ e.oid.length = 4) → (es.map enOct).flatten.length ≤ 15 * es.length
  | [], _ => by simp
  | e :: es, h => by
    have := flat_len fun e he => h e (.tail _ he)
    have h1 := h e (.head _)
    have h2 := oct8_len (m := e.mode)
    rw [List.map_cons, List.flatten_cons, List.length_append]
    have h3 : (enOct e).length = (oct8 e.mode).length + 1 + e.name.length + 1 + e.oid.length := by simp [enOct]; omega
    simp only [List.length_cons]
    omega
structure EsG (p : BY) (es : List En) : Prop where
  ok : EsOk es
  z : (es.map enOct).flatten.length ≤ 900
  g : GoodT (.tree es)
theorem nodup_get {α : Type} {l : List α} (nd : l.Nodup) {i j : Nat} {a : α} (h1 : l[i]? = some a) (h2 : l[j]? = some a) : i = j :=
  (List.getElem?_inj (List.getElem?_eq_some_iff.mp h1).1 nd).mp (h1.trans h2.symm)
theorem Kids.good {items : List Thing} {new : List (BY × BY)} {p : BY} {us : List En} {pp : List Nat} {d : En} (hp : p ∈ FsL) (K : Kids items new p us) (pm : pp.Perm (List.range us.length))
    (hord : ∀ i a b, pp[i]? = some a → pp[i + 1]? = some b → (keysF p).idxOf (keyOf (us.getD a d)) ≤ (keysF p).idxOf (keyOf (us.getD b d))) : EsG p (pick us d pp) := by
  have pe := pick_perm (l := us) (d := d) pm
  have hm : ∀ e ∈ pick us d pp, e ∈ us := fun e he => pe.mem_iff.mp he
  have nm : ∀ e ∈ us, (NameOk e.name ∧ e.name.length ≤ 3) ∧ (e.mode = 33188 ∨ e.mode = 16384) := fun e he => by
    rcases (K.row e he).1 with ⟨a, b⟩ | ⟨a, b, _⟩
    · exact ⟨(fFile hp b).1, .inl a⟩
    · exact ⟨(fDir hp b).1, .inr a⟩
  have hl : (pick us d pp).length ≤ 4 := by rw [pe.length_eq]; exact K.len hp
  refine ⟨⟨fun e he => ?_, by omega, ?_, fun i a b ha hb => ?_⟩, ?_, fun e he => ?_⟩
  · have := (K.row e (hm e he)).2.ok
    exact ⟨(nm e (hm e he)).2, (nm e (hm e he)).1.1, this.2, by omega⟩
  · exact (pe.map En.name).nodup_iff.mpr K.nn
  · unfold pick at ha hb
    rw [List.getElem?_map] at ha hb
    obtain ⟨x, hx, rfl⟩ := Option.map_eq_some_iff.mp ha
    obtain ⟨y, hy, rfl⟩ := Option.map_eq_some_iff.mp hb
    have hx' : x < us.length := List.mem_range.mp (pm.mem_iff.mp (List.mem_of_getElem? hx))
    have hy' : y < us.length := List.mem_range.mp (pm.mem_iff.mp (List.mem_of_getElem? hy))
    have ex : us.getD x d = us[x] := by simp [hx']
    have ey : us.getD y d = us[y] := by simp [hy']
    have le := hord i x y hx hy
    rw [ex, ey] at le ⊢
    have kx := K.key hp _ (List.getElem_mem hx')
    have ky := K.key hp _ (List.getElem_mem hy')
    refine fLe hp kx ky (Nat.lt_of_le_of_ne le fun e => ?_)
    have e2 : keyOf us[x] = keyOf us[y] := by
      have h1 := List.getElem_idxOf (List.idxOf_lt_length_iff.mpr kx)
      have h2 := List.getElem_idxOf (List.idxOf_lt_length_iff.mpr ky)
      rw [← h1, ← h2]
      congr 1
    have nk := K.keys hp
    have e3 : x = y := nodup_get (a := keyOf us[x]) nk (by rw [List.getElem?_map, List.getElem?_eq_getElem hx']; rfl) (by rw [List.getElem?_map, List.getElem?_eq_getElem hy', e2]; rfl)
    subst e3
    have := nodup_get (pm.nodup_iff.mpr List.nodup_range) hx hy
    omega
  · have := flat_len (es := pick us d pp) fun e he => ⟨(nm e (hm e he)).1.2, (K.row e (hm e he)).2.ok.1⟩
    omega
  · exact ⟨(nm e (hm e he)).2, (nm e (hm e he)).1.1.n, (K.row e (hm e he)).2.ok.1⟩
theorem Kids.built {items : List Thing} {new : List (BY × BY)} {p : BY} {us es : List En} (hp : p ∈ FsL) (K : Kids items new p us) (pe : es.Perm us) (hz : items.length < 50000) (G : GoodI items) (g : GoodT (.tree es)) :
    Built (pushT items (.tree es)) (new ++ [(p, idOf (pushT items (.tree es)) (.tree es))]) p (idOf (pushT items (.tree es)) (.tree es)) := by
  have T := tree_at G g hz
  have ml : ∀ x ∈ new, x ∈ new ++ [(p, idOf (pushT items (.tree es)) (.tree es))] := fun x hx => List.mem_append_left _ hx
  refine ⟨by simp, fun q o hq => ?_, fun q o hq => ?_, ?_, fun k hk => ?_⟩
  · rcases List.mem_append.mp hq with hq | hq
    · exact (K.node q o hq).ext pushT_ext ml
    · cases List.mem_singleton.mp hq
      exact ⟨es, T, by rw [pe.length_eq]; exact K.len hp, (pe.map En.name).nodup_iff.mpr K.nn, fun e he => ((K.row e (pe.mem_iff.mp he)).1).mono ml⟩
  · rcases List.mem_append.mp hq with hq | hq
    · rcases K.reach q o hq with ⟨e, he, hm, hj⟩ | ⟨r, o', es', e, a, b, c⟩
      · exact .inr ⟨p, _, es, e, by simp, T, pe.mem_iff.mpr he, hm, hj⟩
      · exact .inr ⟨r, o', es', e, ml _ a, b.ext pushT_ext, c⟩
    · cases List.mem_singleton.mp hq
      exact .inl rfl
  · rw [List.map_append, List.nodup_append]
    exact ⟨K.nd, by simp, fun a ha b hb e => by simp at hb; subst hb; exact (K.below a ha).2.2 e⟩
  · rw [List.map_append] at hk
    rcases List.mem_append.mp hk with hk | hk
    · exact ⟨(K.below k hk).1, (K.below k hk).2.1⟩
    · rw [List.mem_singleton.mp hk]
      exact ⟨hp, (fPfx hp).2.2⟩
end
-- F15
section
section
variable {prog : Program} {w : World} {mg mb : Str → Option Value} {p : Program} {loose : List Str} {A : Around} {E : Value → Shared → Prop}
  {g h : Heap} {mu : List (Addr × Obj)} {gs : Array GenState} {dr : Drawn} {tk : Nat} {os : OsState}
theorem stored_keys {kvs : List (BY × Value)} {k : BY} {v : Value} : (stored kvs k v).map (·.1) = if k ∈ kvs.map (·.1) then kvs.map (·.1) else kvs.map (·.1) ++ [k] := by
  by_cases h : k ∈ kvs.map (·.1)
  · rw [if_pos h]
    unfold stored
    split
    · rw [List.map_map]
      refine List.map_congr_left fun e _ => ?_
      simp only [Function.comp_apply]
      split
      · rfl
      · rfl
    · rename_i q
      exfalso
      apply q
      obtain ⟨e, he, rfl⟩ := List.mem_map.mp h
      exact List.any_eq_true.mpr ⟨e, he, by simp⟩
  · rw [if_neg h, stored_new h, List.map_append]; rfl
structure L1 (prog : Program) (w : World) (p : BY) (sh : List (BY × BY)) (items0 : List Thing) (kn kd : Addr) (i : Nat) (g : Heap) (o1 o2 oN : Obj) (items : List Thing) (inn : Addr) (kvsN : List (BY × Value)) (ys : List Value) (rs : List En) : Prop where
  dn : DM prog w inn oN kvsN
  kn1 : ∀ k ∈ kvsN.map (·.1), k ∈ dirN p
  kn2 : (kvsN.map (·.1)).Nodup
  ya : All2 (IsRow g) ys rs
  ra : ∀ e ∈ rs, e.mode = 33188 ∧ e.name ∈ fileN p ∧ IdB e.oid
  sl : (rs.map fun e => pfx p ++ e.name).Sublist ((sh.take i).map (·.1))
  F : StF prog w g kn kd o1 o2 items
  G : GoodI items
  x : items0 <+: items
  z : items.length ≤ items0.length + i

theorem mkLam' {mg mb : Str → Option Value} {pr : Program} {loose : List Str} {gE hE g h : Heap} {S : List Addr} {L : Addr} {m : Str → Option Value} {mu : List (Addr × Obj)} {env : Env} {name qual : Str} {params : Arguments} {body : Expr} {scope : Scope} {pos : Pos} {line : Nat} {tab : Array Value} {Q : Value → Shared → Prop} (st : St gE hE S g L m mu h) (i : Nat) (hi : mu[i]? = some (543, tabObj tab))
    (C : Cx w mg mb pr loose g) (B : g.BuiltinsAt mg 543) (ht : TabIs g lamQ lamPos tab)
    (hq : ∀ f c' ctv pm g' h' tk' tab', Sub g g' → g'.get? f = some (kla_obj name lamQ params body scope [] pm c' ctv) → g'.CodeRec (.ref c') lamQ → TabIs g' lamQ lamPos tab' → St gE hE S g' L m (mu.set i (543, tabObj tab')) h' → Q (.ref f) ⟨h', gs, dr, tk', os⟩)
    (hq1 : qual = lamQ := by kernel_rfl) (hq2 : pos = lamPos := by kernel_rfl) (hl : line = pos.line := by kernel_rfl) (hcl : closureFor scope env = pure [] := by kernel_rfl) (hge0 : env.globals = mainGlobals := by kernel_rfl) (hcode : env.code = .ref 545 := by kernel_rfl) :
    wpAny (model prog w) A (makeFunction name qual params (.expr body) scope env [] [] [] pos line) Q E ⟨h, gs, dr, tk, os⟩ := by
  subst hq1 hl
  subst hq2
  exact mkLam st i hi C B ht hcl hge0 hcode hq
set_option maxHeartbeats 400000 in
theorem law_tree_end {mg mb : Str → Option Value} {pr : Program} {loose : List Str} {S kn kd ip d : Addr} {r : Nat}
    {A : Around} {g g₁ h h₁ : Heap} {gs : Array GenState} {dr : Drawn} {tk : Nat} {os : OsState} {p : BY} {tab : Array Value} {o1 o2 oI : Obj} {items0 items : List Thing} {kvsI : List (BY × Value)} {idl new : List (BY × BY)} {zs : List Value} {us : List En} {nl : Nat} {t : Tok} {Z : Flow → Shared → Prop} {n : Nat} {m : Str → Option Value}
    (hp : p ∈ FsL) (CX : Cx w mg mb pr loose g₁) (B : g₁.BuiltinsAt mg 543) (rm : Rm (A.deeper (callEnv (fdOf w 546) h.objs.size 546)) (n + 13)) (T : TabIs g₁ lamQ lamPos tab) (I : StoreAt g₁ S kn kd)
    (F : StF prog w g₁ kn kd o1 o2 items) (G : GoodI items) (hx : items0 <+: items) (hz : items.length < 49999) (hz2 : items.length + 1 ≤ items0.length + 12 ^ (r + 1)) (D : DM prog w ip oI kvsI) (hb : IsBM kvsI (idl ++ new)) (nd : (idl.map (·.1)).Nodup) (hk : ∀ k ∈ idl.map (·.1), k ∈ FsL ∧ Bel p k = false)
    (za : All2 (IsRow g₁) zs us) (K : Kids items new p us) (hd : h.objs.size ≤ d)
    (st : St g h [kn, kd, 543, ip] g₁ h.objs.size m [(kn, o1), (kd, o2), (543, tabObj tab), (ip, oI), (d, lst zs.toArray nl)] h₁)
    (m1 : m "store" = some (.ref S)) (m3 : m "prefix" = some (.bytes (pfx p).toArray t)) (m4 : m "ids" = some (.ref ip)) (m5 : m "rows" = some (.ref d))
    (ret : ∀ oid items' new tab' o1' o2' oI' kvsI' g' h' tk' t', Step [kn, kd, 543, ip] g h g' h' → Own g' h' [(kn, o1'), (kd, o2'), (543, tabObj tab'), (ip, oI')] → TabIs g' lamQ lamPos tab' → StF prog w g' kn kd o1' o2' items' → GoodI items' →
      items0 <+: items' → items'.length ≤ items0.length + 12 ^ (r + 1) → DM prog w ip oI' kvsI' → IsBM kvsI' (idl ++ new) → Built items' new p oid → Z (.ret (.bytes oid.toArray t')) ⟨h', gs, dr, tk', os⟩) :
    wpC (model prog w) (A.deeper (callEnv (fdOf w 546) h.objs.size 546)) (execs ((bodyOf w 546).drop 3) (callEnv (fdOf w 546) h.objs.size 546)) Z ⟨h₁, gs, dr, tk, os⟩ := by
  refine C.execs' ?_
  refine C.any ?_
  refine xAssign ?_
  refine wpAny_Call_Name_kw ?_
  walk_at "go"
  refine callWith_kw ?_
  walk_at "go"
  refine kws_cons ?_
  refine kla_eval rfl ?_
  with_reducible refine mkLam' st 2 rfl CX B T fun f c' ctv pm g' h' tk' tab' sg hf hrec T' st => ?_
  refine kws_nil ?_
  have hlen : zs.length = us.length := za.length
  have CX := CX.sub sg
  have za := za.mono fun _ _ q => q.sub sg
  let dE : En := ⟨0, [], []⟩
  have hkey := K.key hp
  have hus := K.len hp
  refine sortKeyB (kb := fun i => keyOf (us.getD i dE)) (r := fun i => (keysF p).idxOf (keyOf (us.getD i dE))) (l := d) st (st.at 4 rfl) hd (st.ml _ (List.mem_of_getElem? (i := 4) rfl)).1 (by omega) ?_ ?_ ?_ ?_
  · intro i hi
    have hi' : i < us.length := by omega
    have e : us.getD i dE = us[i] := by simp [hi']
    show (keysF p).idxOf (keyOf (us.getD i dE)) < 4
    rw [e]
    have := List.idxOf_lt_length_iff.mpr (hkey _ (List.getElem_mem hi'))
    have := (fKeys hp).1
    omega
  · intro i j hi hj
    have hi' : i < us.length := by omega
    have hj' : j < us.length := by omega
    have e : us.getD i dE = us[i] := by simp [hi']
    have e' : us.getD j dE = us[j] := by simp [hj']
    show ltB (keyOf (us.getD i dE)) (keyOf (us.getD j dE)) = _
    rw [e, e']
    exact (fKeys hp).2 _ (hkey _ (List.getElem_mem hi')) _ (hkey _ (List.getElem_mem hj'))
  · intro i v g₂ h₂ tk₂ hv sg2 k2
    obtain ⟨e, he, Re⟩ := za.get' hv
    have e1 : us.getD i dE = e := by simp [he]
    have hzn : e.name.length ≤ 500 := by
      rcases (K.row e (List.mem_of_getElem? he)).1 with ⟨_, b⟩ | ⟨_, b, _⟩
      · exact (fFile hp b).1.1.z
      · exact (fDir hp b).1.1.z
    refine lam_spec (CX.sub sg2) k2 (rm.mono (show n + 3 ≤ n + 13 by omega)).in1.in1 (sg2 _ _ hf) (rec_keeps hrec sg2) (Re.sub sg2) hzn fun h' tk' t' sp ow => ?_
    exact ⟨g₂, h', tk', t', rfl, sp, ow, by show _ = Value.bytes (keyOf (us.getD i dE)).toArray t'; rw [e1]⟩
  · intro D' g₃ h' c tk' pp sg3 hD' hpp hord st
    refine st.freezeC hD' fun g₄ sg4 hgD st => ?_
    have CX := CX.sub (sg3.trans sg4)
    have sg04 := sg.trans (sg3.trans sg4)
    have I := I.sub sg04
    obtain ⟨H, t0, I1, I2⟩ := id I
    have za := All2.pick (d := dE) (za.mono fun _ _ q => q.sub (sg3.trans sg4)) (p := pp) (fun i hi => List.mem_range.mp (hpp.mem_iff.mp hi))
    have st := st.perm (mu' := [(kn, o1), (kd, o2), (543, tabObj tab'), (ip, oI), (d, lst zs.toArray nl)]) (.refl _)
    walk_at "go"
    refine C.execs' ?_
    refine C.Assign ?_
    refine C.Method ?_
    walk_at "go"
    with_reducible refine C.callK (by kernel_rfl!) ?_
    refine C.SplCons ?_
    refine C.any ?_
    walk_at "go"
    have EG := K.good hp (pp := pp) (d := dE) (by rw [← hlen]; exact hpp) hord
    have pe := pick_perm (l := us) (d := dE) (p := pp) (by rw [← hlen]; exact hpp)
    have hpl : pp.length = us.length := by have := hpp.length_eq; simp at this; omega
    refine evComp (cl := []) ?clos ?kind ?names ?fs ?main
    case main =>
      walk_at "go"
      obtain st : St _ _ _ _ _ _ _ _ := by assumption
      refine compIT (cl := []) rm.hh (isl hgD) ?hn ?hcell ?hkind ?hL st (fun i g' ys mu' => mu' = [(kn, o1), (kd, o2), (543, tabObj tab'), (ip, oI), (d, lst zs.toArray nl)] ∧ All2 (IsEn g') ys ((pick us dE pp).take i)) ⟨rfl, .nil⟩ ?turn ?done
      case turn =>
        intro h₀ S₀ C' D2 I' i v g₅ h₅ m₅ mu₅ tk₅ oI₀ oI' ys na E hi hp' zj sg5 hl fr st₀ hS st₅ Z zn
        obtain ⟨rfl, hys⟩ := zj
        obtain ⟨e, he, x, t1, t2, t3, nx, rfl, hxt⟩ := za.get' (by simpa using hp')
        have CX := CX.sub sg5
        refine aTup st₅ rm.hh (st₅.own.keep _ _ (sg5 _ _ hxt)) rfl rfl fun h' st => ?_
        walk_at "go"
        refine entry_new (e := e) CX (by obtain st : St _ _ _ _ _ _ _ _ := by assumption
                                         exact st.own.keep) (rm.mono (show n + 2 ≤ n + 13 by omega)) fun x g' h' tk' sp ow I => ?_
        obtain st : St _ _ _ _ _ _ _ _ := by assumption
        have st := st.call (mu₁ := []) sp ow rfl
        refine zn _ g' h' _ _ _ sp.sub st ⟨rfl, ?_⟩
        rw [List.take_add_one, he]
        exact (hys.mono fun _ _ q => q.sub sp.sub).snoc I
      case done =>
        rintro D2 g₅ h₅ mu₅ tk₅ ys na ⟨rfl, hys⟩ sg5 hl hD2 st₅
        rw [List.take_of_length_le (by simp [pick])] at hys
        refine st₅.freezeC hD2 fun g₆ sg6 hgl st => ?_
        have CX := CX.sub (sg5.trans sg6)
        have I := I.sub (sg5.trans sg6)
        have hys := hys.mono fun _ _ q => q.sub sg6
        walk_at "go"
        refine tree_new CX st.own.keep (rm.mono (show n + 2 ≤ n + 13 by omega)) fun x g₇ h' tk' sp ow Ix => ?_
        have st := st.call (mu₁ := []) sp ow rfl
        have CX := CX.sub sp.sub
        refine C.SplNil ?_
        refine ⟨CX.X.keeps st.own.keep, ?_⟩
        refine write_tree_spec (n := n) CX (rm.mono (by omega)) (st.sel (mu₁ := [(kn, o1), (kd, o2)])) (I.sub sp.sub) (F.sub (((sg04.trans sg5).trans sg6).trans sp.sub)) (by omega) EG.ok Ix (sp.sub _ _ hgl) (hys.mono fun _ _ q => q.sub sp.sub) EG.z fun o1' o2' g₈ h' tk' t' sp8 ow F' => ?_
        have st := St.call (mu₁ := [(kn, o1), (kd, o2)]) (mu₁' := [(kn, o1'), (kd, o2')]) st sp8 ow rfl
        have CX := CX.sub sp8.sub
        walk_at "go"
        refine C.execs' ?_
        refine C.any ?_
        refine xAssignSub ?_
        walk_at "go"
        refine UnaryOp_ ?_
        walk_at "go"
        refine neg_int ?_
        obtain st : St _ _ _ _ _ _ _ _ := by assumption
        have hpz := (fPfx hp).2.1
        refine byCut st .none (.int _ _) (by omega) fun h' tk' t' st => ?_
        rw [cutL_butLast, (fPfx hp).1]
        have hnew : p ∉ kvsI.map (·.1) := by
          rw [hb.keys, List.map_append]
          intro q
          rcases List.mem_append.mp q with q | q
          · have := (hk p q).2
            rw [(fPfx hp).2.2] at this
            cases this
          · exact (K.below p q).2.2 rfl
        have hbl : kvsI.length ≤ 1000 := by
          have h1 := hb.length
          have h2 := nodup_len (k := FsL) nd fun k q => (hk k q).1
          have h3 := nodup_len (k := FsL) K.nd fun k q => (K.below k q).1
          rw [List.length_map] at h2 h3
          have h4 : FsL.length = 4 := rfl
          rw [List.length_append] at h1
          omega
        refine dSet st 3 rfl D (by omega) fun h' oI' tk' D' st => ?_
        refine C.execs' ?_
        refine C.any ?_
        walk_at "go"
        rw [stored_new hnew] at D'
        refine ret _ _ _ _ _ _ _ _ _ _ _ _ st.step (st.sub (List.dropLast_sublist _)).own (T'.sub ?_) F' (G.push EG.g) (hx.trans pushT_ext) ?_ D' (by rw [← List.append_assoc]; exact hb.snoc) (K.built hp pe (by omega) G EG.g)
        · exact (((((sg3.trans sg4).trans sg5).trans sg6).trans sp.sub).trans sp8.sub)
        · have := pushT_len (items := items) (th := .tree (pick us dE pp))
          omega
      case hn =>
        simp only [List.size_toArray, pick, List.length_map]
        unfold sizeLine
        omega
      all_goals kernel_rfl!
    case names => decide
    case fs => intro x; kernel_rfl!
    all_goals kernel_rfl!
end
end
-- F16
section
section
variable {prog : Program} {w : World} {mg mb : Str → Option Value} {p : Program} {loose : List Str} {A : Around} {E : Value → Shared → Prop}
  {g h : Heap} {mu : List (Addr × Obj)} {gs : Array GenState} {dr : Drawn} {tk : Nat} {os : OsState}
/-- what holds between the turns of the second loop -/
structure L2 (prog : Program) (w : World) (p : BY) (items0 : List Thing) (kn kd ip : Addr) (r i : Nat) (idl : List (BY × BY)) (kvsN : List (BY × Value)) (g : Heap) (tab : Array Value) (o1 o2 oI : Obj) (items : List Thing) (kvsI : List (BY × Value)) (new : List (BY × BY)) (ys : List Value) (rs : List En) : Prop where
  T : TabIs g lamQ lamPos tab
  F : StF prog w g kn kd o1 o2 items
  G : GoodI items
  x : items0 <+: items
  z : items.length ≤ items0.length + 6 + i * 12 ^ r
  D : DM prog w ip oI kvsI
  b : IsBM kvsI (idl ++ new)
  ya : All2 (IsRow g) ys rs
  rn : rs.map En.name = (kvsN.take i).map (·.1)
  ra : ∀ e ∈ rs, e.mode = 16384 ∧ e.name ∈ dirN p ∧ IdB e.oid ∧ (joined p e.name, e.oid) ∈ new
  node : ∀ q o, (q, o) ∈ new → NodeOk items new q o
  reach : ∀ q o, (q, o) ∈ new → (∃ e ∈ rs, joined p e.name = q) ∨ ∃ r o' es e, (r, o') ∈ new ∧ TreeAt items o' es ∧ e ∈ es ∧ e.mode = 16384 ∧ joined r e.name = q
  nd : (new.map (·.1)).Nodup
  below : ∀ k ∈ new.map (·.1), k ∈ FsL ∧ ∃ e ∈ rs, Bel (pfx p ++ e.name) k = true
/-- between the turns of the second for -/
inductive RestJ (pr : Program) (ww : World) (p : BY) (items0 : List Thing) (kn kd ip d S sp : Addr) (r : Nat) (idl : List (BY × BY)) (kvsN : List (BY × Value)) (ys : List Value) (t : Tok) (i : Nat) (g₁ : Heap) (m₁ : Str → Option Value) (mu₁ : List (Addr × Obj)) : Prop
  | mk (tab : Array Value) (o1 o2 oI : Obj) (items : List Thing) (kvsI : List (BY × Value)) (new : List (BY × BY)) (ysD : List Value) (rsD : List En) (nl : Nat) (_ : mu₁ = [(kn, o1), (kd, o2), (543, tabObj tab), (ip, oI), (d, lst (ys ++ ysD).toArray nl)])
    (_ : L2 pr ww p items0 kn kd ip r i idl kvsN g₁ tab o1 o2 oI items kvsI new ysD rsD)
    (_ : m₁ "store" = some (.ref S)) (_ : m₁ "sheet" = some (.ref sp)) (_ : m₁ "prefix" = some (.bytes (pfx p).toArray t)) (_ : m₁ "ids" = some (.ref ip)) (_ : m₁ "rows" = some (.ref d)) : RestJ pr ww p items0 kn kd ip d S sp r idl kvsN ys t i g₁ m₁ mu₁
set_option maxHeartbeats 4000000 in
theorem law_tree_rest {mg mb : Str → Option Value} {pr : Program} {loose : List Str} {S kn kd ip sp inn d : Addr} {sh : List (BY × BY)} {r : Nat} (ih : ∀ r', r' < r → LT prog w mg mb pr loose S kn kd ip sp sh r')
    {A : Around} {g g₁ h h₁ : Heap} {gs : Array GenState} {dr : Drawn} {tk : Nat} {os : OsState} {p : BY} {tab : Array Value} {o1 o2 oI oN : Obj} {items0 items : List Thing} {kvsI kvsN : List (BY × Value)} {idl : List (BY × BY)} {ys : List Value} {rs : List En} {nl i : Nat} {t : Tok} {Z : Flow → Shared → Prop} {n : Nat} {m : Str → Option Value}
    (hr : rankF p ≤ r) (hp : p ∈ FsL) (CX : Cx w mg mb pr loose g₁) (B : g₁.BuiltinsAt mg 543) (rm : Rm (A.deeper (callEnv (fdOf w 546) h.objs.size 546)) (n + r + 13)) (T : TabIs g₁ lamQ lamPos tab) (I : StoreAt g₁ S kn kd) (SH : SheetAt prog w g₁ sp sh)
    (hz : items0.length + 12 ^ (r + 1) ≤ 50000) (D : DM prog w ip oI kvsI) (hb : IsBM kvsI idl) (nd : (idl.map (·.1)).Nodup) (hk : ∀ k ∈ idl.map (·.1), k ∈ FsL ∧ Bel p k = false)
    (J : L1 prog w p sh items0 kn kd i g₁ o1 o2 oN items inn kvsN ys rs) (hi : i ≤ 6) (hinn : h.objs.size ≤ inn) (hd : h.objs.size ≤ d)
    (st : St g h [kn, kd, 543, ip] g₁ h.objs.size m [(kn, o1), (kd, o2), (543, tabObj tab), (ip, oI), (inn, oN), (d, lst ys.toArray nl)] h₁)
    (m1 : m "store" = some (.ref S)) (m2 : m "sheet" = some (.ref sp)) (m3 : m "prefix" = some (.bytes (pfx p).toArray t)) (m4 : m "ids" = some (.ref ip)) (m5 : m "rows" = some (.ref d)) (m6 : m "inner" = some (.ref inn))
    (ret : ∀ oid items' new tab' o1' o2' oI' kvsI' g' h' tk' t', Step [kn, kd, 543, ip] g h g' h' → Own g' h' [(kn, o1'), (kd, o2'), (543, tabObj tab'), (ip, oI')] → TabIs g' lamQ lamPos tab' → StF prog w g' kn kd o1' o2' items' → GoodI items' →
      items0 <+: items' → items'.length ≤ items0.length + 12 ^ (r + 1) → DM prog w ip oI' kvsI' → IsBM kvsI' (idl ++ new) → Built items' new p oid → Z (.ret (.bytes oid.toArray t')) ⟨h', gs, dr, tk', os⟩) :
    wpC (model prog w) (A.deeper (callEnv (fdOf w 546) h.objs.size 546)) (execs ((bodyOf w 546).drop 2) (callEnv (fdOf w 546) h.objs.size 546)) Z ⟨h₁, gs, dr, tk, os⟩ := by
  have hpz := (fPfx hp).2.1
  refine (st.front 4 rfl).freezeC hinn fun gI sgI hgI st => ?_
  have hrs : rs.length ≤ 6 := by
    have := J.sl.length_le
    simp at this
    omega
  have CX := CX.sub sgI
  have B := bAt_keeps B sgI
  have T := T.sub sgI
  have I := I.sub sgI
  have SH := SH.sub sgI
  have J := J
  have hdn : (kvsN.map (·.1)).length ≤ (dirN p).length := nodup_len J.kn2 J.kn1
  have hd2 : (dirN p).length ≤ 2 := by
    unfold dirN
    split
    · exact Nat.le_refl _
    · split <;> exact Nat.le_of_ble_eq_true rfl
  have hk2 : kvsN.length ≤ 2 := by rw [List.length_map] at hdn; omega
  refine C.execs' ?_
  refine C.For ?_
  walk_at "go"
  refine C.forI (Iter.dict rm.hh J.dn.1 (Heap.dictOf_iff.mpr ⟨oN, hgI, J.dn.2⟩)) st (RestJ prog w p items0 kn kd ip d S sp r idl kvsN ys t)
    ⟨tab, o1, o2, oI, items, kvsI, [], [], [], nl, by rw [List.append_nil]; rfl, ⟨T, J.F.sub sgI, J.G, J.x, by have := J.z; omega, D, by rw [List.append_nil]; exact hb, .nil, rfl, by simp, by simp, by simp, by simp, by simp⟩, m1, m2, m3, m4, m5⟩ ?turn ?done ?ht
  case ht => intro I v; rfl
  case done =>
    rintro g₂ h₂ m₂ mu₂ tk₂ ⟨tab, o1, o2, oI, items', kvsI', new, ysD, rsD, nl, rfl, J2, m1, m2, m3, m4, m5⟩ sg st
    have hnl : kvsN.take kvsN.length = kvsN := List.take_length
    have rn := J2.rn
    rw [hnl] at rn
    have hpw : 12 ^ (r + 1) = 12 * 12 ^ r := by rw [Nat.pow_succ, Nat.mul_comm]
    have hp1 : 1 ≤ 12 ^ r := Nat.one_le_pow _ _ (by decide)
    have hip : kvsN.length * 12 ^ r ≤ 2 * 12 ^ r := Nat.mul_le_mul_right _ hk2
    have hz2 := J2.z
    have K : Kids items' new p (rs ++ rsD) := by
      refine ⟨fun e he => ?_, ?_, J2.node, fun q o hq => ?_, J2.nd, fun k hk => ?_⟩
      · rcases List.mem_append.mp he with he | he
        · obtain ⟨a, b, c⟩ := J.ra e he
          exact ⟨.inl ⟨a, b⟩, c⟩
        · obtain ⟨a, b, c, d⟩ := J2.ra e he
          exact ⟨.inr ⟨a, b, d⟩, c⟩
      · rw [List.map_append, List.nodup_append]
        refine ⟨?_, ?_, fun a ha b hb e => ?_⟩
        · have h1 := J.sl
          have h2 : (sh.take i |>.map (·.1)).Nodup := SH.nd.sublist (List.Sublist.map _ (List.take_sublist _ _))
          have h3 := h2.sublist h1
          rw [List.Nodup, List.pairwise_map] at h3 ⊢
          exact h3.imp fun ne e => ne (by rw [e])
        · rw [rn]; exact J.kn2
        · subst e
          obtain ⟨x, hx, rfl⟩ := List.mem_map.mp ha
          obtain ⟨y, hy, e⟩ := List.mem_map.mp hb
          have h1 := (fFile hp (J.ra x hx).2.1).2.2.2
          exact h1 (e ▸ (J2.ra y hy).2.1)
      · rcases J2.reach q o hq with ⟨e, he, hj⟩ | q'
        · exact .inl ⟨e, List.mem_append_right _ he, (J2.ra e he).1, hj⟩
        · exact .inr q'
      · obtain ⟨a, e, he, b⟩ := J2.below k hk
        obtain ⟨c, d⟩ := fDown hp (J2.ra e he).2.1 a b
        exact ⟨a, c, d⟩
    refine law_tree_end (r := r) (n := n + r) hp (CX.sub sg) (bAt_keeps B sg) rm J2.T (I.sub sg) J2.F J2.G J2.x (by omega) (by omega) J2.D J2.b nd hk ((J.ya.mono fun _ _ q => q.sub (sgI.trans sg)).append J2.ya) K hd st m1 m3 m4 m5 ret
  case turn =>
    intro i v I' g₂ h₂ m₂ mu₂ tk₂ oI' hi hp' zj sg st Z zn zb zr
    obtain ⟨tab, o1, o2, oI, items', kvsI', new, ysD, rsD, nl, rfl, J2, m1, m2, m3, m4, m5⟩ := zj
    obtain ⟨k, x, tp, hkx, rfl⟩ := hp'
    have CX := CX.sub sg
    have hkd : k ∈ dirN p := J.kn1 k (List.mem_map.mpr ⟨_, List.mem_of_getElem? hkx, rfl⟩)
    obtain ⟨⟨kok, kz⟩, kF, krk, kky, kpf⟩ := fDir hp hkd
    have htk : kvsN.take (i + 1) = kvsN.take i ++ [(k, x)] := by rw [List.take_add_one, hkx]; rfl
    walk_at "go"
    refine C.execs' ?_
    refine C.Expr' ?_
    refine C.Method ?_
    walk_at "go"
    refine C.callB ?_
    refine C.SplCons ?_
    refine C.Tuple ?_
    refine C.SplCons ?_
    refine C.any ?_
    walk_at "go"
    refine C.SplCons ?_
    refine C.any ?_
    walk_at "go"
    refine C.SplCons ?_
    refine C.Call ?_
    walk_at "go"
    with_reducible refine C.callK (by kernel_rfl!) ?_
    refine C.any ?_
    walk_at "go"
    obtain st : St _ _ _ _ _ _ _ _ := by assumption
    rw [← kpf]
    have st := st.perm (mu' := [(kn, o1), (kd, o2), (543, tabObj tab), (ip, oI)] ++ [(I', oI'), (d, lst (ys ++ ysD).toArray nl)]) (List.perm_middle (l₁ := [(kn, o1), (kd, o2), (543, tabObj tab), (ip, oI)])).symm
    have hpw : 12 ^ (r + 1) = 12 * 12 ^ r := by rw [Nat.pow_succ, Nat.mul_comm]
    have hp1 : 1 ≤ 12 ^ r := Nat.one_le_pow _ _ (by decide)
    have hip : i * 12 ^ r ≤ 12 ^ r := by
      have := Nat.mul_le_mul_right (12 ^ r) (show i ≤ 1 by omega)
      omega
    have hr1 : r - 1 + 1 = r := by omega
    have hsl : ∀ e ∈ rsD, e.name ≠ k := fun e he q => by
      have h1 : e.name ∈ (kvsN.take i).map (·.1) := by rw [← J2.rn]; exact List.mem_map_of_mem he
      rw [q] at h1
      have h2 := J.kn2.sublist (List.Sublist.map (·.1) (List.take_sublist (i + 1) kvsN))
      rw [htk, List.map_append, List.nodup_append] at h2
      exact h2.2.2 k h1 k (by simp) rfl
    have hBn : ∀ z ∈ new.map (·.1), z ∈ FsL ∧ Bel p z = true ∧ Bel (pfx p ++ k) z = false := fun z hz => by
      obtain ⟨zF, e, he, hbe⟩ := J2.below z hz
      refine ⟨zF, (fDown hp (J2.ra e he).2.1 zF hbe).1, ?_⟩
      cases q : Bel (pfx p ++ k) z with
      | false => rfl
      | true => exact (fSib hp (J2.ra e he).2.1 hkd (hsl e he) zF hbe q).elim
    refine ih (r - 1) (by omega) _ g₂ _ gs dr _ os (pfx p ++ k) tab o1 o2 oI items' kvsI' (idl ++ new) _ _ n (by omega) kF CX (bAt_keeps B sg) (rm.mono (by omega)) st.sel J2.T (I.sub sg) (SH.sub sg) J2.F J2.G (by have := J2.z; rw [hr1]; omega) J2.D J2.b ?_ ?_ ?_
    · rw [List.map_append, List.nodup_append]
      refine ⟨nd, J2.nd, fun a ha b hb q => ?_⟩
      subst q
      have h1 := (hk a ha).2
      rw [(hBn a hb).2.1] at h1
      cases h1
    · intro z hz
      rw [List.map_append] at hz
      rcases List.mem_append.mp hz with hz | hz
      · refine ⟨(hk z hz).1, ?_⟩
        cases q : Bel (pfx p ++ k) z with
        | false => rfl
        | true =>
          have := (fDown hp hkd (hk z hz).1 q).1
          rw [(hk z hz).2] at this
          cases this
      · exact ⟨(hBn z hz).1, (hBn z hz).2.2⟩
    · intro oid items'' newk tab' o1' o2' oI'' kvsI'' g₃ h' tk' t' sp ow T' F' G' x' z' D' b' Bt
      have st := St.call (mu₁ := [(kn, o1), (kd, o2), (543, tabObj tab), (ip, oI)]) (mu₁' := [(kn, o1'), (kd, o2'), (543, tabObj tab'), (ip, oI'')]) st sp ow rfl
      have st := st.perm (mu' := (I', oI') :: [(kn, o1'), (kd, o2'), (543, tabObj tab'), (ip, oI''), (d, lst (ys ++ ysD).toArray nl)]) (List.perm_middle (l₁ := [(kn, o1'), (kd, o2'), (543, tabObj tab'), (ip, oI'')]))
      refine C.SplNil ?_
      refine tNew st (Nat.le_of_ble_eq_true rfl) fun tu h' htu st => ?_
      refine C.SplNil ?_
      refine st.freezeC htu fun g₄ sg4 htg st => ?_
      have hrd : rsD.length ≤ 2 := by
        have := congrArg List.length J2.rn
        simp at this
        omega
      refine C.any ?_
      refine lAppend st 5 rfl (by rw [List.length_append, J.ya.length, J2.ya.length]; omega) fun h' st => ?_
      refine C.any (wpAny_execs_nil ?_)
      have sg24 := sp.sub.trans sg4
      obtain ⟨esk, ⟨ik, hik, _, hik2⟩, _⟩ := (Bt.node _ _ Bt.mem).ex
      have ml : ∀ x ∈ new, x ∈ new ++ newk := fun x hx => List.mem_append_left _ hx
      have mr : ∀ x ∈ newk, x ∈ new ++ newk := fun x hx => List.mem_append_right _ hx
      refine zn _ g₄ _ _ _ _ rfl sg24 st ⟨tab', o1', o2', oI'', items'', kvsI'', new ++ newk, ysD ++ [.ref tu], rsD ++ [⟨16384, k, oid⟩], nl + 1, by rw [List.append_assoc]; rfl,
        ⟨T'.sub sg4, F'.sub sg4, G', J2.x.trans x', ?_, D', by rw [← List.append_assoc]; exact b', (J2.ya.mono fun _ _ q => q.sub sg24).snoc ⟨tu, _, _, _, 0, rfl, htg⟩, ?_, ?_, ?_, ?_, ?_, ?_⟩, by walk_at "fr", by walk_at "fr", by walk_at "fr", by walk_at "fr", by walk_at "fr"⟩
      · have := J2.z
        rw [hr1] at z'
        rw [Nat.add_mul]
        omega
      · rw [List.map_append, J2.rn, htk, List.map_append]; rfl
      · intro e he
        rcases List.mem_append.mp he with he | he
        · obtain ⟨a, b, c, d⟩ := J2.ra e he
          exact ⟨a, b, c, ml _ d⟩
        · rw [List.mem_singleton.mp he]
          exact ⟨rfl, hkd, ⟨ik, hik, by omega⟩, mr _ (by rw [joined_pfx]; exact Bt.mem)⟩
      · intro q o hq
        rcases List.mem_append.mp hq with hq | hq
        · exact (J2.node q o hq).ext x' ml
        · exact (Bt.node q o hq).ext (List.prefix_refl _) mr
      · intro q o hq
        rcases List.mem_append.mp hq with hq | hq
        · rcases J2.reach q o hq with ⟨e, he, hj⟩ | ⟨r', o', es, e, a, b, c, d, f⟩
          · exact .inl ⟨e, List.mem_append_left _ he, hj⟩
          · exact .inr ⟨r', o', es, e, ml _ a, b.ext x', c, d, f⟩
        · rcases Bt.reach q o hq with rfl | ⟨r', o', es, e, a, b, c, d, f⟩
          · exact .inl ⟨⟨16384, k, oid⟩, by simp, joined_pfx⟩
          · exact .inr ⟨r', o', es, e, mr _ a, b, c, d, f⟩
      · rw [List.map_append, List.nodup_append]
        refine ⟨J2.nd, Bt.nd, fun a ha b hb q => ?_⟩
        subst q
        have h1 := (Bt.below a hb).2
        rw [(hBn a ha).2.2] at h1
        cases h1
      · intro z hz
        rw [List.map_append] at hz
        rcases List.mem_append.mp hz with hz | hz
        · obtain ⟨a, e, he, b⟩ := J2.below z hz
          exact ⟨a, e, List.mem_append_left _ he, b⟩
        · exact ⟨(Bt.below z hz).1, ⟨16384, k, oid⟩, by simp, (Bt.below z hz).2⟩
end
end
-- F17
section
section
variable {prog : Program} {w : World} {mg mb : Str → Option Value} {p : Program} {loose : List Str} {A : Around} {E : Value → Shared → Prop}
  {g h : Heap} {mu : List (Addr × Obj)} {gs : Array GenState} {dr : Drawn} {tk : Nat} {os : OsState}
/-- between the turns of the first for -/
inductive TreeJ (pr : Program) (ww : World) (p : BY) (sh : List (BY × BY)) (items : List Thing) (kn kd ip inn d S sp : Addr) (tab : Array Value) (oI : Obj) (t : Tok) (i : Nat) (g₁ : Heap) (m₁ : Str → Option Value) (mu₁ : List (Addr × Obj)) : Prop
  | mk (o1 o2 oN : Obj) (items' : List Thing) (kvsN : List (BY × Value)) (ys : List Value) (rs : List En) (nl : Nat) (_ : mu₁ = [(kn, o1), (kd, o2), (543, tabObj tab), (ip, oI), (inn, oN), (d, lst ys.toArray nl)]) (_ : L1 pr ww p sh items kn kd i g₁ o1 o2 oN items' inn kvsN ys rs)
    (_ : m₁ "store" = some (.ref S)) (_ : m₁ "sheet" = some (.ref sp)) (_ : m₁ "prefix" = some (.bytes (pfx p).toArray t)) (_ : m₁ "ids" = some (.ref ip)) (_ : m₁ "rows" = some (.ref d)) (_ : m₁ "inner" = some (.ref inn)) : TreeJ pr ww p sh items kn kd ip inn d S sp tab oI t i g₁ m₁ mu₁
set_option maxHeartbeats 4000000 in
theorem law_tree_step {mg mb : Str → Option Value} {pr : Program} {loose : List Str} {S kn kd ip sp : Addr} {sh : List (BY × BY)} {r : Nat} (ih : ∀ r', r' < r → LT prog w mg mb pr loose S kn kd ip sp sh r') : LT prog w mg mb pr loose S kn kd ip sp sh r := by
  intro A g h gs dr tk os p tab o1 o2 oI items kvsI idl t Q n hr hp CX B rm ow T I SH F G hz D hb nd hk ret
  obtain ⟨⟨kvsS, DS, bS⟩, SHok, SHnd⟩ := SH
  have hpz := (fPfx hp).2.1
  have h12 : 12 ≤ 12 ^ (r + 1) := by
    have := Nat.pow_le_pow_right (show 0 < 12 by decide) (show 1 ≤ r + 1 by omega)
    simpa using this
  have hs6 : sh.length ≤ 6 := by
    have := nodup_len (k := PS) SHnd (fun x hx => by obtain ⟨y, hy, rfl⟩ := List.mem_map.mp hx; exact (SHok y hy).1)
    rw [List.length_map] at this
    exact this
  have hd2 : (dirN p).length ≤ 2 := by
    unfold dirN
    split
    · exact Nat.le_refl _
    · split <;> exact Nat.le_of_ble_eq_true rfl
  refine C.call' ?_
  refine C.enter (f := 546) (fd := fdOf w 546) (body := bodyOf w 546) (binds := [("store", .ref S), ("sheet", .ref sp), ("prefix", .bytes (pfx p).toArray t), ("ids", .ref ip)]) CX ow rm (oc := .type "function") (od := none) (osl := #[]) ?a ?b ?c ?d ?e ?walk ?f ?g ?i ?j
  case walk =>
    intro h₁ tk₁ rm st Z0 z0
    refine C.execs' ?_
    refine C.any ?_
    with_reducible refine Assign_Tuple_swapped (names := ["rows", "inner"]) ?_ (by kernel_rfl!) (by kernel_rfl!)
    refine Tuple_ ?_
    refine xSplCons ?_
    refine List_ ?_
    refine xSplNil ?_
    refine lNew st (Nat.le_of_ble_eq_true rfl) fun d h' hd st => ?_
    refine xSplCons ?_
    refine dNew st CX fun inn h' oN DN hinn st => ?_
    walk_at "go"
    rename_i tu h2 _ st
    refine uTup st rm.hh (st.at 0 rfl) rfl fun h' st => ?_
    have st := (st.sub (List.sublist_cons_self _ _)).perm (mu' := [(kn, o1), (kd, o2), (543, tabObj tab), (ip, oI), (inn, oN), (d, lst #[] 0)]) (List.perm_append_comm (l₁ := [(inn, oN), (d, lst #[] 0)]))
    refine aSw (n := "inner") (ns := ["rows"]) (x := .ref inn) (xs := [.ref d]) ?_
    walk_at "go"
    refine aSw ?_
    walk_at "go"
    refine aSw0 ?_
    refine C.execs' ?_
    refine C.any ?_
    walk_at "go"
    obtain st : St _ _ _ _ _ _ [(kn, o1), (kd, o2), (543, tabObj tab), (ip, oI), (inn, oN), (d, lst #[] 0)] _ := by assumption
    have hSn : kvsS.length = sh.length := bS.length
    refine forI (Iter.dict rm.hh DS.1 DS.2) st (TreeJ prog w p sh items kn kd ip inn d S sp tab oI t)
      ⟨o1, o2, oN, items, [], [], [], 0, rfl, ⟨DN, by simp, by simp, .nil, by simp, by simp, F, G, List.prefix_refl _, by omega⟩, by walk_at "fr", by walk_at "fr", by walk_at "fr", by walk_at "fr", by walk_at "fr", by walk_at "fr"⟩ ?turn ?done ?ht
    case ht => intro I v; rfl
    case turn =>
      intro i v I' g₁ h₁ m₁ mu₁ tk₁ oI' E hi hp' zj sg st Z zn zb zr
      obtain ⟨o1, o2, oN, items', kvsN, ys, rs, nl, rfl, J, m1, m2, m3, m4, m5, m6⟩ := zj
      obtain ⟨k, x, tp, hkx, rfl⟩ := hp'
      obtain ⟨b, tb, hsb, rfl⟩ := bS.get' hkx
      have CX := CX.sub sg
      have ST := I.sub sg
      have DS1 := DS.sub sg
      have hval : valueAt kvsS k = some (.bytes b.toArray tb) := valueAt_some (by rw [bS.keys]; exact SHnd) hkx
      have hil : i < sh.length := by rw [← hSn]; exact hi
      have hPS : k ∈ PS ∧ b.length ≤ 900 := SHok _ (List.mem_of_getElem? hsb)
      have hkl : k.length ≤ 10 := by
        have : ∀ q ∈ PS, q.length ≤ 10 := by decide
        exact this k hPS.1
      have htk : sh.take (i + 1) = sh.take i ++ [(k, b)] := by rw [List.take_add_one, hsb]; rfl
      walk_at "go"
      by_cases hpre : (pfx p).isPrefixOf k = true
      case neg =>
        first | ((with_reducible refine ifN ?hc ?_); (case hc => exact hpre)) | rw [if_neg hpre]
        walk_at "go"
        obtain st : St _ _ _ _ _ _ _ _ := by assumption
        refine zn _ g₁ _ _ _ _ rfl Sub.rfl st ⟨o1, o2, oN, items', kvsN, ys, rs, nl, rfl, { J with sl := ?_, z := by have := J.z; omega }, by walk_at "fr", by walk_at "fr", by walk_at "fr", by walk_at "fr", by walk_at "fr", by walk_at "fr"⟩
        rw [htk, List.map_append]
        exact J.sl.trans (List.sublist_append_left _ _)
      case pos =>
        obtain ⟨f1, f2, ⟨pr', f3⟩, f4⟩ := fPath hp hPS.1 hpre
        first | ((with_reducible refine ifP ?hc ?_); (case hc => exact hpre)) | rw [if_pos hpre]
        walk_at "go"
        obtain st : St _ _ _ _ _ _ _ _ := by assumption
        refine byCut st (.int _ _) .none (by omega) fun h' tk' t' st => ?_
        rw [cutL_from]
        walk_at "go"
        refine bySplit st (by rw [List.length_drop]; omega) (fun x hx => by have := f2 x hx; omega) (by omega) fun dl h' vs tk' hv hdl st => ?_
        have hnl : (nameIn p k).length ≤ 10 := f2 _ (by rw [f3]; exact .head _)
        rw [f3] at hv
        walk_at "go"
        obtain ⟨tn, hvn⟩ := hv.get (i := 0) rfl
        refine lItem (k := 0) (st.at 0 rfl) (by decide) hvn ?_
        walk_at "go"
        obtain st : St _ _ _ _ _ _ _ _ := by assumption
        have st := st.sub (List.sublist_cons_self _ _)
        by_cases hfile : pfx p ++ nameIn p k = k
        case pos =>
          rw [if_pos hfile] at f4
          first | ((with_reducible refine ifP ?hc ?_); (case hc => exact (by simpa using hfile))) | rw [if_pos (by simpa using hfile)]
          have ST' := ST
          obtain ⟨H, t0, I1, I2⟩ := ST'
          walk_at "go"
          obtain st : St _ _ _ _ _ _ _ _ := by assumption
          have st := st.perm (mu' := (kn, o1) :: (kd, o2) :: (I', oI') :: [(543, tabObj tab), (ip, oI), (inn, oN), (d, lst ys.toArray nl)]) ((List.Perm.swap _ _ _).trans (.cons _ (.swap _ _ _)))
          refine write_spec CX (by assumption) (st.sel (mu₁ := [(kn, o1), (kd, o2)])) ST J.F (by have := J.z; omega) hPS.2 fun o1' o2' g₂ h' tk' t' sp ow F' => ?_
          have st := St.call (mu₁ := [(kn, o1), (kd, o2)]) (mu₁' := [(kn, o1'), (kd, o2')]) st sp ow rfl
          have st := st.perm (mu' := (I', oI') :: (kn, o1') :: (kd, o2') :: [(543, tabObj tab), (ip, oI), (inn, oN), (d, lst ys.toArray nl)]) ((List.Perm.cons _ (.swap _ _ _)).trans (.swap _ _ _))
          have CX := CX.sub sp.sub
          walk_at "go"
          rename_i tu _ htu st
          refine st.freezeC htu fun g₃ sg3 htg st => ?_
          have hrl : rs.length ≤ 6 := by
            have := J.sl.length_le
            simp at this
            omega
          refine lAppend st 6 rfl (by rw [J.ya.length]; omega) fun h' st => ?_
          walk_at "go"
          have sg13 := sp.sub.trans sg3
          refine zn _ g₃ _ _ _ _ rfl sg13 st ⟨o1', o2', oN, _, kvsN, ys ++ [.ref tu], rs ++ [⟨33188, nameIn p k, idOf (pushT items' (.blob b)) (.blob b)⟩], nl + 1, rfl, ⟨J.dn, J.kn1, J.kn2, (J.ya.mono fun _ _ q => q.sub sg13).snoc ⟨tu, _, _, _, 0, rfl, htg⟩, ?_, ?_, F'.sub sg3, J.G.push trivial, J.x.trans pushT_ext, ?_⟩, by walk_at "fr", by walk_at "fr", by walk_at "fr", by walk_at "fr", by walk_at "fr", by walk_at "fr"⟩
          · intro e he
            rcases List.mem_append.mp he with he | he
            · exact J.ra e he
            · rw [List.mem_singleton.mp he]
              exact ⟨rfl, f4, idOf_id (by have := J.z; omega)⟩
          · rw [htk, List.map_append, List.map_append]
            refine J.sl.append ?_
            show [pfx p ++ nameIn p k].Sublist [k]
            rw [hfile]
            exact List.Sublist.refl _
          · have := J.z
            have := pushT_len (items := items') (th := .blob b)
            omega
        case neg =>
          rw [if_neg hfile] at f4
          first | ((with_reducible refine ifN ?hc ?_); (case hc => exact (by simpa using hfile))) | rw [if_neg (by simpa using hfile)]
          walk_at "go"
          obtain st : St _ _ _ _ _ _ _ _ := by assumption
          refine dSet st 5 rfl J.dn (by have := nodup_len J.kn2 J.kn1; simp at this; omega) fun h' oN' tk' DN' st => ?_
          walk_at "go"
          refine zn _ g₁ _ _ _ _ rfl Sub.rfl st ⟨o1, o2, oN', items', _, ys, rs, nl, rfl, { J with dn := DN', kn1 := ?_, kn2 := ?_, sl := ?_, z := by have := J.z; omega }, by walk_at "fr", by walk_at "fr", by walk_at "fr", by walk_at "fr", by walk_at "fr", by walk_at "fr"⟩
          · rw [stored_keys]
            split
            · exact J.kn1
            · intro x hx
              rcases List.mem_append.mp hx with hx | hx
              · exact J.kn1 x hx
              · rw [List.mem_singleton.mp hx]; exact f4
          · rw [stored_keys]
            split
            · exact J.kn2
            · rename_i q
              rw [List.nodup_append]
              exact ⟨J.kn2, by simp, fun a ha b hb => by simp at hb; subst hb; intro e; subst e; exact q ha⟩
          · rw [htk, List.map_append]
            exact J.sl.trans (List.sublist_append_left _ _)
    case done =>
      rintro g₁ h₁ m₁ mu₁ tk₁ ⟨o1, o2, oN, items', kvsN, ys, rs, nl, rfl, J, m1, m2, m3, m4, m5, m6⟩ sg st
      exact law_tree_rest (n := n) ih hr hp (CX.sub sg) (bAt_keeps B sg) rm (T.sub sg) (I.sub sg) ⟨⟨kvsS, DS.sub sg, bS⟩, SHok, SHnd⟩ hz D hb nd hk J (by omega) hinn hd st m1 m2 m3 m4 m5 m6 fun _ _ _ _ _ _ _ _ _ _ _ _ a b c d e f g h i j => z0 _ _ (ret _ _ _ _ _ _ _ _ _ _ _ _ a b c d e f g h i j)
  all_goals walk_at "kr"

theorem law_tree {mg mb : Str → Option Value} {pr : Program} {loose : List Str} {S kn kd ip sp : Addr} {sh : List (BY × BY)} (r : Nat) : LT prog w mg mb pr loose S kn kd ip sp sh r := by
  induction r using Nat.strongRecOn with
  | ind r ih => exact law_tree_step ih
end
end
-- E0
section
/-- a row of the law -/
noncomputable def IsLRow (g : Heap) (v : Value) (c : Ch) : Prop := ∃ x t v1 v2 v3 v4 n, v = .ref x ∧ g.get? x = some (tup #[.str c.word t, v2, v1, v4, v3] n) ∧ OB v1 c.oid ∧ OB v2 c.opath ∧ OB v3 c.nid ∧ OB v4 c.npath
theorem IsLRow.sub {g g' : Heap} {v : Value} {c : Ch} (R : IsLRow g v c) (k : Sub g g') : IsLRow g' v c := let ⟨x, t, v1, v2, v3, v4, n, a, b, c⟩ := R; ⟨x, t, v1, v2, v3, v4, n, a, k _ _ b, c⟩
section
variable {prog : Program} {w : World} {mg mb : Str → Option Value} {p : Program} {loose : List Str} {A : Around} {E : Value → Shared → Prop}
  {g h : Heap} {gs : Array GenState} {dr : Drawn} {tk : Nat} {os : OsState} {s : Shared}
theorem eqAt_by {x : BY} {t u : Tok} : SeqAt.EqAt A s (.bytes x.toArray t) (.bytes x.toArray u) true := fun prog w E Q hq => eqBool_bytes (by simpa using hq)
theorem eqAt_OB {u v : Value} {o : Option BY} (a : OB u o) (b : OB v o) : SeqAt.EqAt A s u v true := by
  cases a with
  | none => cases b; exact SeqAt.EqAt.same _
  | some x t => cases b with
    | some _ t' => exact eqAt_by
theorem eqAt_row {u v : Value} {c : Ch} (hu : A.units < cLine) (a : IsLRow s.heap u c) (b : IsLRow s.heap v c) : SeqAt.EqAt A s u v true := by
  obtain ⟨x, t, v1, v2, v3, v4, n, rfl, hx, o1, o2, o3, o4⟩ := a
  obtain ⟨y, t', u1, u2, u3, u4, n', rfl, hy, p1, p2, p3, p4⟩ := b
  by_cases e : x = y
  · subst e; exact SeqAt.EqAt.same _
  · refine SeqAt.EqAt.of_refs e ?_
    refine SeqAt.RcAt.tuples (e := fun _ => true) (ist hx) (ist hy) hu fun j h1 h2 => ?_
    have h1 : j < 5 := h1
    rcases j with _ | _ | _ | _ | _ | j
    · exact (by have := SeqAt.EqAt.str_str (A := A.in1) (s := s) c.word t c.word t'; simpa using this)
    · exact eqAt_OB o2 p2
    · exact eqAt_OB o1 p1
    · exact eqAt_OB o4 p4
    · exact eqAt_OB o3 p3
    · omega
theorem all_true {n : Nat} : ((List.range n).all fun _ => true) = true := List.all_eq_true.mpr fun _ _ => rfl
theorem rows_ne {a b : Addr} {vs us : List Value} {n k : Nat} {cs : List Ch} {Q : Value → Shared → Prop} (hu : A.units + 1 < cLine) (ha : s.heap.get? a = some (lst vs.toArray n)) (hb : s.heap.get? b = some (lst us.toArray k)) (Ra : All2 (IsLRow s.heap) vs cs) (Rb : All2 (IsLRow s.heap) us cs)
    (hq : Q (.bool false) s) : wpAny (model prog w) A (compareOp .NotEq (.ref a) (.ref b)) Q E s := by
  have := SeqAt.RcNeAt.lists (A := A) (s := s) (e := fun _ => true) (isl ha) (isl hb) (by simp [Ra.length, Rb.length]) (by omega) fun j h1 h2 => ?_
  · exact this prog w E Q (by rw [all_true]; exact hq)
  · have h1' : j < cs.length := by simpa [Ra.length] using h1
    obtain ⟨x, e1, I1⟩ := Ra.get (List.getElem?_eq_getElem h1')
    obtain ⟨y, e2, I2⟩ := Rb.get (List.getElem?_eq_getElem h1')
    have e1 : vs.toArray[j] = x := by simpa [List.getElem?_eq_some_iff] using (List.getElem?_eq_some_iff.mp e1).2
    have e2 : us.toArray[j] = y := by simpa [List.getElem?_eq_some_iff] using (List.getElem?_eq_some_iff.mp e2).2
    rw [e1, e2]
    exact eqAt_row (by show A.units + 1 < cLine; exact hu) I1 I2
theorem rows_eq {a b : Addr} {vs us : List Value} {n k : Nat} {cs : List Ch} {Q : Value → Shared → Prop} (hu : A.units + 1 < cLine) (ha : s.heap.get? a = some (lst vs.toArray n)) (hb : s.heap.get? b = some (lst us.toArray k)) (Ra : All2 (IsLRow s.heap) vs cs) (Rb : All2 (IsLRow s.heap) us cs)
    (hq : Q (.bool true) s) : wpAny (model prog w) A (compareOp .Eq (.ref a) (.ref b)) Q E s := by
  have := SeqAt.RcAt.lists (A := A) (s := s) (e := fun _ => true) (isl ha) (isl hb) (by simp [Ra.length, Rb.length]) (by omega) fun j h1 h2 => ?_
  · exact this prog w E Q (by rw [all_true]; exact hq)
  · have h1' : j < cs.length := by simpa [Ra.length] using h1
    obtain ⟨x, e1, I1⟩ := Ra.get (List.getElem?_eq_getElem h1')
    obtain ⟨y, e2, I2⟩ := Rb.get (List.getElem?_eq_getElem h1')
    have e1 : vs.toArray[j] = x := by simpa [List.getElem?_eq_some_iff] using (List.getElem?_eq_some_iff.mp e1).2
    have e2 : us.toArray[j] = y := by simpa [List.getElem?_eq_some_iff] using (List.getElem?_eq_some_iff.mp e2).2
    rw [e1, e2]
    exact eqAt_row (by show A.units + 1 < cLine; exact hu) I1 I2
/-- a list against the empty list -/
theorem neNil {a b : Addr} {vs : List Value} {n k : Nat} {Q : Value → Shared → Prop} (hu : A.units < cLine) (ha : s.heap.get? a = some (lst vs.toArray n)) (hb : s.heap.get? b = some (lst ([] : List Value).toArray k))
    (hq : Q (.bool (vs != [])) s) : wpAny (model prog w) A (compareOp .NotEq (.ref a) (.ref b)) Q E s := by
  cases vs with
  | nil =>
    have := SeqAt.RcNeAt.lists (A := A) (s := s) (e := fun _ => true) (isl ha) (isl hb) rfl hu fun j h1 h2 => absurd h1 (Nat.not_lt_zero _)
    exact this prog w E Q (by simpa using hq)
  | cons v vs =>
    have := SeqAt.RcNeAt.lists_lengths (A := A) (s := s) (isl ha) (isl hb) (by simp) hu
    exact this prog w E Q (by rw [show (v :: vs != []) = true by simp] at hq; exact hq)
theorem keq_all {ka kb : List (BY × Value)} : ∀ {vs : List (BY × Value)} {as : List (BY × BY)}, IsBM vs as → (∀ k b, (k, b) ∈ as → ∃ t, valueAt kb k = some (.bytes b.toArray t)) → KeqHits A s kb vs true
  | _, _, .nil, _ => .nil
  | _, _, .cons (k := k) (b := b) r, h => by
    obtain ⟨t, ht⟩ := h k b (.head _)
    exact KeqHits.hit ht eqAt_by (keq_all (ka := ka) (kb := kb) r fun k' b' hm => h k' b' (.tail _ hm))
/-- two dicts of bytes with the same pairs -/
theorem dicts_ne {a b : Addr} {ka kb : List (BY × Value)} {as bs : List (BY × BY)} {Q : Value → Shared → Prop} (hu : A.units < cLine) (Da : DF prog w s.heap a ka) (Db : DF prog w s.heap b kb) (Ba : IsBM ka as) (Bb : IsBM kb bs) (nd : (bs.map (·.1)).Nodup) (pm : ∀ x ∈ as, x ∈ bs) (pl : as.length = bs.length)
    (hq : Q (.bool false) s) : wpAny (model prog w) A (compareOp .NotEq (.ref a) (.ref b)) Q E s := by
  refine keq_ne Da.1 Db.1 Da.2 Db.2 hu (r := true) (fun _ => keq_all (ka := ka) Ba fun k b hm => ?_) ?_
  · obtain ⟨i, hi⟩ := List.getElem?_of_mem (pm _ hm)
    obtain ⟨t, ht⟩ := Bb.get hi
    exact ⟨t, valueAt_some (by rw [Bb.keys]; exact nd) ht⟩
  · have : ka.length = kb.length := by rw [Ba.length, Bb.length, pl]
    rw [this]
    simpa using hq
theorem dGetM {d : Addr} {kvs : List (BY × Value)} {pl : Sem Bool} {Q : Value × List Value → Shared → Prop} (D : DF prog w h d kvs) (hq : Q (.builtin "dict.get", [.ref d]) ⟨h, gs, dr, tk, os⟩) : wpAny (model prog w) A (getMethod (.ref d) "get" pl) Q E ⟨h, gs, dr, tk, os⟩ :=
  getMethod_builtin (s := ⟨h, gs, dr, tk, os⟩) D.2.typeIs PySem.F.plainAttrs_dict PySem.F.slot_dict_get PySem.F.type_dict_get D.2.mapOf.noDict hq
theorem dGet {d : Addr} {kvs : List (BY × Value)} {k : BY} {t : Tok} {Q : Value → Shared → Prop} (D : DF prog w h d kvs) (hq : ∀ tk', Q ((valueAt kvs k).getD .none) ⟨h, gs, dr, tk', os⟩) : wpAny (model prog w) A (call (.builtin "dict.get") [.ref d, .bytes k.toArray t]) Q E ⟨h, gs, dr, tk, os⟩ :=
  call_meetsIn (s := ⟨h, gs, dr, tk, os⟩) PySem.F.slot_dict_get D.2.typeIs PySem.F.entry_dict_get (PySem.F.args_dict_get_2 _ _) (meets_dict_get (bytesKind prog w) d isBy D.1) ⟨_, D.2.mapOf, hq _⟩
end
end
-- F20
section
section
variable {prog : Program} {w : World} {mg mb : Str → Option Value} {p : Program} {loose : List Str} {A : Around} {E : Value → Shared → Prop}
  {g h : Heap} {mu : List (Addr × Obj)} {gs : Array GenState} {dr : Drawn} {tk : Nat} {os : OsState}
/-- a dict of entries by their names -/
inductive IsEM (g : Heap) : List (BY × Value) → List En → Prop
  | nil : IsEM g [] []
  | cons {v : Value} {e : En} {vs : List (BY × Value)} {es : List En} : IsEn g v e → IsEM g vs es → IsEM g ((e.name, v) :: vs) (e :: es)
theorem IsEM.sub {g g' : Heap} (k : Sub g g') : ∀ {vs : List (BY × Value)} {es : List En}, IsEM g vs es → IsEM g' vs es
  | _, _, .nil => .nil
  | _, _, .cons a b => .cons (a.sub k) (b.sub k)
theorem IsEM.keys {g : Heap} : ∀ {vs : List (BY × Value)} {es : List En}, IsEM g vs es → vs.map (·.1) = es.map En.name
  | _, _, .nil => rfl
  | _, _, .cons a b => by simp [b.keys]
theorem IsEM.length {g : Heap} {vs : List (BY × Value)} {es : List En} (h : IsEM g vs es) : vs.length = es.length := by
  have := congrArg List.length h.keys
  simpa using this
theorem IsEM.snoc {g : Heap} {v : Value} {e : En} (i : IsEn g v e) : ∀ {vs : List (BY × Value)} {es : List En}, IsEM g vs es → IsEM g (vs ++ [(e.name, v)]) (es ++ [e])
  | _, _, .nil => .cons i .nil
  | _, _, .cons a b => .cons a (b.snoc i)
noncomputable def findE (es : List En) (k : BY) : Option En := es.find? fun e => e.name == k
theorem IsEM.look {g : Heap} {k : BY} : ∀ {vs : List (BY × Value)} {es : List En}, IsEM g vs es → OE g ((valueAt vs k).getD .none) (findE es k)
  | _, _, .nil => .none
  | _, _, .cons (e := e) a b => by
    have ih := b.look (k := k)
    unfold findE valueAt at *
    by_cases q : e.name = k
    · rw [List.find?_cons_of_pos (by simpa using q), List.find?_cons_of_pos (by simpa using q)]
      exact .some a
    · rw [List.find?_cons_of_neg (by simpa using q), List.find?_cons_of_neg (by simpa using q)]
      exact ih
theorem IsEM.isSome {g : Heap} {k : BY} : ∀ {vs : List (BY × Value)} {es : List En}, IsEM g vs es → (valueAt vs k).isSome = decide (k ∈ es.map En.name)
  | _, _, .nil => by simp [valueAt]
  | _, _, .cons (e := e) a b => by
    have ih := b.isSome (k := k)
    unfold valueAt at *
    by_cases q : e.name = k
    · rw [List.find?_cons_of_pos (by simpa using q)]
      simp [q]
    · rw [List.find?_cons_of_neg (by simpa using q), ih]
      simp [q, Ne.symm q]
/-- the entries of a tree that may be none -/
noncomputable def TreeO (items : List Thing) : Option BY → List En → Prop
  | none, es => es = []
  | some o, es => TreeAt items o es
theorem entries_spec {S : Addr} {items : List Thing} {o : Option BY} {es : List En} {v : Value} {Q : Value → Shared → Prop} {n : Nat} (C : Cx w mg mb p loose g) (k : Sub g h) (rm : Rm A (n + 4)) (R : StR prog w g S items) (O : OB v o) (T : TreeO items o es) (nd : (es.map En.name).Nodup) (hz : es.length ≤ 4)
    (ret : ∀ D g' h' tk' kvs, Step [] g h g' h' → Own g' h' [] → DF prog w g' D kvs → IsEM g' kvs es → Q (.ref D) ⟨h', gs, dr, tk', os⟩) :
    wpAny (model prog w) A (call (.ref 222) [.ref S, v]) Q E ⟨h, gs, dr, tk, os⟩ := by
  have R' := R
  obtain ⟨⟨kn, kd, kvs, ⟨H, t0, I1, I2⟩, D, K⟩, hzz⟩ := R'
  refine wpAny_call ?_
  refine enter (f := 222) (fd := fdOf w 222) (body := bodyOf w 222) (binds := [("store", .ref S), ("tree", v)]) C (Own.nil k) rm (oc := .type "function") (od := none) (osl := #[]) ?a ?b ?c ?d ?e ?walk ?f ?g ?i ?j
  case walk =>
    intro E h₁ tk₁ rm st Z0 z0
    walk_at "sx"
    refine xAssign ?_
    refine dNew st C fun d h' o1 D1 hd st => ?_
    cases O with
    | none =>
      have T : es = [] := T
      subst T
      walk_at "go"
      obtain st : St _ _ _ _ _ _ [(d, o1)] _ := by assumption
      refine st.freezeC hd fun g' sg hg st => ?_
      walk_at "go"
      exact ret d g' _ _ [] st.step st.own ⟨D1.1, Heap.dictOf_iff.mpr ⟨o1, hg, D1.2⟩⟩ .nil
    | some b t =>
      obtain ⟨i, rfl, hi, _⟩ := T
      walk_at "go"
      refine tree_spec C (by obtain st : St _ _ _ _ _ _ [(d, o1)] _ := by assumption
                             exact st.own.keep) (by assumption) R hi fun h' tk' v sp ow ht => ?_
      obtain st : St _ _ _ _ _ _ [(d, o1)] _ := by assumption
      have st := st.call (mu₁ := []) sp ow rfl
      obtain ⟨x, l, vs, nl, rfl, It, hl, hv⟩ := ht
      walk_at "go"
      refine forI (Iter.list rm.hh (isl hl)) st (fun i g₁ m₁ mu₁ => ∃ o kvs, g₁ = g ∧ mu₁ = [(d, o)] ∧ DM prog w d o kvs ∧ IsEM g kvs (es.take i) ∧ m₁ "found" = some (.ref d)) ⟨o1, [], rfl, rfl, D1, .nil, by walk_at "fr"⟩ ?turn ?done ?ht
      case ht => intro I v; rfl
      case turn =>
        intro i v I g₁ h₁ m₁ mu₁ tk₁ oI E hi hp zj sg st Z zn zb zr
        obtain ⟨o2, kvs2, rfl, rfl, D2, M2, m1⟩ := zj
        obtain ⟨e, he, x, t1, t2, t3, rfl, Ie⟩ := hv.get' (by simpa using hp)
        have htk : es.take (i + 1) = es.take i ++ [e] := by rw [List.take_add_one, he]; rfl
        have hno : e.name ∉ kvs2.map (·.1) := by
          rw [M2.keys]
          intro q
          have := nd.sublist (List.Sublist.map _ (List.take_sublist (i + 1) es))
          rw [htk, List.map_append, List.nodup_append] at this
          exact this.2.2 _ q e.name (by simp) rfl
        walk_at "go"
        obtain st : St _ _ _ _ _ _ _ _ := by assumption
        refine dSet st 1 rfl D2 (by rw [M2.length]; simp; omega) fun h' o' tk' D' st => ?_
        rw [stored_new hno] at D'
        walk_at "go"
        refine zn _ g₁ _ _ _ _ rfl Sub.rfl st ⟨_, _, rfl, rfl, D', ?_, by walk_at "fr"⟩
        rw [htk]
        exact M2.snoc ⟨x, t1, t2, t3, rfl, Ie⟩
      case done =>
        rintro g₁ h₁ m₁ mu₁ tk₁ ⟨o2, kvs2, rfl, rfl, D2, M2, m1⟩ sg st
        walk_at "go"
        obtain st : St _ _ _ _ _ _ _ _ := by assumption
        rw [List.take_of_length_le (by have := hv.length; simp; omega)] at M2
        refine st.freezeC hd fun g' sg hg st => ?_
        walk_at "go"
        exact ret d g' _ _ _ st.step st.own ⟨D2.1, Heap.dictOf_iff.mpr ⟨o2, hg, D2.2⟩⟩ (M2.sub sg)
  all_goals walk_at "kr"
end
end
-- F21
section
section
variable {prog : Program} {w : World} {mg mb : Str → Option Value} {p : Program} {loose : List Str} {A : Around} {E : Value → Shared → Prop}
  {g h : Heap} {mu : List (Addr × Obj)} {gs : Array GenState} {dr : Drawn} {tk : Nat} {os : OsState}
/-- a pair of a path and an id -/
noncomputable def IsPr (g : Heap) (v : Value) (x : BY × BY) : Prop := ∃ a n t1 t2, v = .ref a ∧ g.get? a = some (tup #[.bytes x.1.toArray t1, .bytes x.2.toArray t2] n)
theorem IsPr.sub {g g' : Heap} {v : Value} {x : BY × BY} (I : IsPr g v x) (k : Sub g g') : IsPr g' v x := let ⟨a, n, t1, t2, e, b⟩ := I; ⟨a, n, t1, t2, e, k _ _ b⟩
theorem All2.snocInv {α : Type} {P : Value → α → Prop} {vs : List Value} {as : List α} {a : α} (h : All2 P vs (as ++ [a])) : ∃ vs' v, vs = vs' ++ [v] ∧ All2 P vs' as ∧ P v a := by
  induction as generalizing vs with
  | nil =>
    cases h with
    | cons p r => cases r; exact ⟨[], _, rfl, .nil, p⟩
  | cons b as ih =>
    cases h with
    | cons p r =>
      obtain ⟨vs', v, rfl, q, r⟩ := ih r
      exact ⟨_ :: vs', v, rfl, .cons p q, r⟩
theorem truL {l : Addr} {vs : List Value} {n : Nat} {Q : Bool → Shared → Prop} (hl : h.get? l = some (lst vs.toArray n)) (hz : vs.length ≤ 1000000) (hq : ∀ tk', Q (vs != []) ⟨h, gs, dr, tk', os⟩) : wpAny (model prog w) A (truthy (.ref l)) Q E ⟨h, gs, dr, tk, os⟩ := by
  refine wpAny_truthy_list (s := ⟨h, gs, dr, tk, os⟩) (isl hl) (by simp; omega) ?_
  have := hq (tk + 1 + 1)
  have e : (!vs.toArray.isEmpty) = (vs != []) := by cases vs <;> simp
  rw [e]; exact this
/-- between the turns of the while -/
inductive FoldJ (pr : Program) (ww : World) (items : List Thing) (new : List (BY × BY)) (oid : BY) (S F W : Addr) (k : Nat) (g₁ : Heap) (m₁ : Str → Option Value) (mu₁ : List (Addr × Obj)) : Prop
  | mk (oF : Obj) (kvs : List (BY × Value)) (fd : List (BY × BY)) (ws : List Value) (nl : Nat) (wt : List (BY × BY)) (_ : mu₁ = [(F, oF), (W, lst ws.toArray nl)]) (_ : k = 4 - fd.length) (_ : DM pr ww F oF kvs) (_ : IsBM kvs fd) (_ : All2 (IsPr g₁) ws wt) (_ : FInv items new oid fd wt)
    (_ : m₁ "store" = some (.ref S)) (_ : m₁ "found" = some (.ref F)) (_ : m₁ "waiting" = some (.ref W)) : FoldJ pr ww items new oid S F W k g₁ m₁ mu₁
theorem folders_spec {S : Addr} {items : List Thing} {oid : BY} {new : List (BY × BY)} {t : Tok} {Q : Value → Shared → Prop} {n : Nat} (C : Cx w mg mb p loose g) (k : Sub g h) (rm : Rm A (n + 4)) (R : StR prog w g S items) (B : Built items new [] oid)
    (ret : ∀ D g' h' tk' kvs fd, Step [] g h g' h' → Own g' h' [] → DF prog w g' D kvs → IsBM kvs fd → (∀ x ∈ fd, x ∈ new) → fd.length = new.length → Q (.ref D) ⟨h', gs, dr, tk', os⟩) :
    wpAny (model prog w) A (call (.ref 215) [.ref S, .bytes oid.toArray t]) Q E ⟨h, gs, dr, tk, os⟩ := by
  have R' := R
  obtain ⟨⟨kn, kd, kvs, ⟨H, t0, I1, I2⟩, D, K⟩, hzz⟩ := R'
  refine wpAny_call ?_
  refine enter (f := 215) (fd := fdOf w 215) (body := bodyOf w 215) (binds := [("store", .ref S), ("tree", .bytes oid.toArray t), ("prefix", .bytes #[] 470)]) C (Own.nil k) rm (oc := .type "function") (od := none) (osl := #[]) ?a ?b ?c ?d ?e ?walk ?f ?g ?i ?j
  case walk =>
    intro E h₁ tk₁ rm st Z0 z0
    walk_at "sx"
    refine xAssign ?_
    refine dNew st C fun F h' oF DF hF st => ?_
    walk_at "go"
    rename_i tu _ htu _ W _ hW _ _ _ st
    refine (st.front 1 rfl).freezeC htu fun g0 sg0 hg0 st => ?_
    have st := st.perm (mu' := [(F, oF), (W, lst #[.ref tu] 0)]) (.swap ..)
    refine whileW st (FoldJ prog w items new oid S F W) 4
      ⟨oF, [], [], [.ref tu], 0, [([], oid)], rfl, rfl, DF, .nil, .cons ⟨tu, 0, _, _, rfl, hg0⟩ .nil, FInv.start B, by walk_at "fr", by walk_at "fr", by walk_at "fr"⟩ ?turn
    case turn =>
      intro kk g₁ h₁ m₁ mu₁ tk₁ E zj sg st Z zn zb zr
      obtain ⟨oF, kvs, fd, ws, nl, wt, rfl, rfl, DF, bf, wa, FI, m1, m2, m3⟩ := zj
      have sgg := sg0.trans sg
      have C := C.sub sgg
      have I1 := I1.sub sgg
      have hln := FI.len B
      have wl := wa.length
      walk_at "go"
      refine truL (st.at 1 rfl) (by omega) fun _ => ?_
      rcases List.eq_nil_or_concat wt with rfl | ⟨wt', ⟨here, o⟩, rfl⟩
      · have : ws = [] := by cases wa; rfl
        subst this
        first | ((with_reducible refine ifN ?hc ?_); (case hc => exact (by simp))) | rw [if_neg (by simp)]
        dsimp only
        walk_at "go"
        refine st.freezeC hF fun g' sg' hg' st => ?_
        have FA := FI.all B
        walk_at "go"
        exact ret F g' _ _ _ _ st.step (st.sub (List.nil_sublist _)).own ⟨DF.1, Heap.dictOf_iff.mpr ⟨oF, hg', DF.2⟩⟩ bf FA.1 FA.2
      · rw [List.concat_eq_append] at *
        obtain ⟨ws', v, rfl, wa', a, na, t1, t2, rfl, ha⟩ := wa.snocInv
        first | ((with_reducible refine ifP ?hc ?_); (case hc => exact (by simp))) | rw [if_pos (by simp)]
        have hn : (here, o) ∈ new := FI.sub _ (by simp)
        have hf := B.inF hn
        have hmiss : here ∉ fd.map (·.1) := fun q => by
          have nd := FI.nd
          rw [List.map_append, List.nodup_append] at nd
          exact nd.2.2 here q here (by simp) rfl
        walk_at "sx"
        refine xAssignTup ?_
        walk_at "go"
        refine lPop st 1 rfl (by simp at wl hln; omega) fun h' n' st => ?_
        refine aTup st rm.hh (st.own.keep _ _ ha) rfl rfl fun h' st => ?_
        walk_at "go"
        obtain st : St _ _ _ _ _ _ _ _ := by assumption
        refine dSet st 0 rfl DF (by rw [bf.length]; omega) fun h' oF' tk' DF' st => ?_
        rw [stored_new (by rw [bf.keys]; exact hmiss)] at DF'
        walk_at "go"
        obtain st : St _ _ _ _ _ _ [(F, oF'), (W, lst ws'.toArray n')] _ := by assumption
        obtain ⟨es, T, _⟩ := (B.node _ _ hn).ex
        obtain ⟨esl, nn, rows⟩ := B.row hn T
        have T' := T
        obtain ⟨ix, rfl, hix, _⟩ := T'
        have R := R.sub sgg
        refine tree_spec C st.own.keep (by assumption) R hix fun h' tk' v sp ow ht => ?_
        have st := st.call (mu₁ := []) sp ow rfl
        obtain ⟨x, l, vs, nl', rfl, It, hl, hv⟩ := ht
        walk_at "go"
        refine forI (Iter.list rm.hh (isl hl)) st (fun i g₂ m₂ mu₂ => ∃ ws2 nl2, mu₂ = [(F, oF'), (W, lst (ws' ++ ws2 : List Value).toArray nl2)] ∧ All2 (IsPr g₂) ws2 (kidsOf here (es.take i)) ∧ m₂ "store" = some (.ref S) ∧ m₂ "found" = some (.ref F) ∧ m₂ "waiting" = some (.ref W) ∧ ∃ th, m₂ "here" = some (.bytes here.toArray th))
          ⟨[], n', by rw [List.append_nil]; rfl, .nil, by walk_at "fr", by walk_at "fr", by walk_at "fr", _, by walk_at "fr"⟩ ?turn ?done ?ht
        case ht => intro I v; rfl
        case done =>
          rintro g₂ h₂ m₂ mu₂ tk₂ ⟨ws2, nl2, rfl, kw, m1, m2, m3, _, _⟩ sg2 st
          rw [List.take_of_length_le (by have := hv.length; simp; omega)] at kw
          walk_at "go"
          have FI' := FInv.turn B FI T
          have hl2 := FI'.len B
          refine zn _ (4 - (fd ++ [(here, be4 (ix + 1))]).length) g₂ _ _ _ _ rfl ?_ sg2 st ⟨oF', _, _, _, _, _, rfl, rfl, DF', bf.snoc, (wa'.mono fun _ _ q => q.sub sg2).append kw, FI', m1, m2, m3⟩
          simp at hln ⊢
          omega
        case turn =>
          intro i v I g₂ h₂ m₂ mu₂ tk₂ oI E hi hp zj sg2 st Z zn zb zr
          obtain ⟨ws2, nl2, rfl, kw, m1, m2, m3, th, m4⟩ := zj
          obtain ⟨e, he, x, u1, u2, u3, rfl, Ie⟩ := hv.get' (by simpa using hp)
          have htk : es.take (i + 1) = es.take i ++ [e] := by rw [List.take_add_one, he]; rfl
          have C := C.sub sg2
          have Ie := Ie.sub sg2
          have hrow := rows e (List.mem_of_getElem? he)
          have hel : e.name.length ≤ 3 := by
            rcases hrow with ⟨_, q⟩ | ⟨_, q, _⟩
            · exact (fFile hf q).1.2
            · exact (fDir hf q).1.2
          have hkl : (kidsOf here (es.take i)).length ≤ 4 := by
            unfold kidsOf
            rw [List.length_map]
            exact Nat.le_trans (List.length_filter_le _ _) (by simp; omega)
          have hhl : here.length ≤ 10 := by
            have := (fPfx hf).1
            have h2 := (fPfx hf).2.1
            rw [← this, List.length_dropLast]
            omega
          walk_at "go"
          by_cases hm : e.mode = 16384
          · first | ((with_reducible refine ifP ?hc ?_); (case hc => exact (by rw [hm]; decide))) | rw [if_pos (by rw [hm]; decide)]
            walk_at "go"
            refine joined_spec C (by obtain st : St _ _ _ _ _ _ _ _ := by assumption
                                     exact st.own.keep) (by assumption) (by omega) fun h' tk' t' sp ow => ?_
            obtain st : St _ _ _ _ _ _ _ _ := by assumption
            have st := st.call (mu₁ := []) sp ow rfl
            walk_at "go"
            rename_i tu _ htu st
            refine st.freezeC htu fun g₃ sg3 htg st => ?_
            have hwl : ws2.length = (kidsOf here (es.take i)).length := kw.length
            refine lAppend st 2 rfl (by rw [List.length_append]; simp at wl hln; omega) fun h' st => ?_
            walk_at "go"
            refine zn _ g₃ _ _ _ _ rfl (sp.sub.trans sg3) st ⟨ws2 ++ [.ref tu], nl2 + 1, by rw [List.append_assoc]; rfl, ?_, by walk_at "fr", by walk_at "fr", by walk_at "fr", th, by walk_at "fr"⟩
            have : kidsOf here (es.take (i + 1)) = kidsOf here (es.take i) ++ [(joined here e.name, e.oid)] := by
              rw [htk]; unfold kidsOf; rw [List.filter_append, List.map_append]; simp [hm]
            rw [this]
            exact (kw.mono fun _ _ q => q.sub (sp.sub.trans sg3)).snoc ⟨tu, _, _, _, rfl, htg⟩
          · first | ((with_reducible refine ifN ?hc ?_); (case hc => exact (by simp; omega))) | rw [if_neg (by simp; omega)]
            walk_at "go"
            obtain st : St _ _ _ _ _ _ _ _ := by assumption
            refine zn _ g₂ _ _ _ _ rfl Sub.rfl st ⟨ws2, nl2, rfl, ?_, by walk_at "fr", by walk_at "fr", by walk_at "fr", th, by walk_at "fr"⟩
            have : kidsOf here (es.take (i + 1)) = kidsOf here (es.take i) := by
              rw [htk]; unfold kidsOf; rw [List.filter_append, List.map_append]; simp [hm]
            rw [this]; exact kw
  case d =>
    refine' BindsTo.of_defaults (T := 208) (o := tup #[.bytes #[] 470] 0) (items := #[.bytes #[] 470]) (n := 0) ?h1 ?h2 rfl ?h3 ?h4
    case h1 => kernel_rfl!
    case h2 => exact C.X.keeps k _ _ (by kernel_rfl!)
    case h3 => rfl
    case h4 => kernel_rfl!
  all_goals walk_at "kr"
end
end
-- F22
section
section
variable {prog : Program} {w : World} {mg mb : Str → Option Value} {p : Program} {loose : List Str} {A : Around} {E : Value → Shared → Prop}
  {g h : Heap} {mu : List (Addr × Obj)} {gs : Array GenState} {dr : Drawn} {tk : Nat} {os : OsState}
noncomputable def besideC (b : BY) : Option En → Option En → List Ch
  | none, none => []
  | none, some e => [⟨"A", none, none, some e.oid, some b⟩]
  | some e, none => [⟨"D", some e.oid, some b, none, none⟩]
  | some a, some e => [⟨"M", some a.oid, some b, some e.oid, some b⟩]
theorem strNotIn {l : Addr} {vs : List Value} {n : Nat} {x : Str} {t : Tok} {Q : Value → Shared → Prop} (hl : h.get? l = some (tup vs.toArray n)) (hv : ∀ v ∈ vs, ∃ y u, v = .str y u ∧ y ≠ x)
    (hq : Q (.bool false) ⟨h, gs, dr, tk, os⟩) : wpAny (model prog w) A (compareOp .In (.str x t) (.ref l)) Q E ⟨h, gs, dr, tk, os⟩ := by
  refine SeqAt.in_tupleAt (s := ⟨h, gs, dr, tk, os⟩) (fun _ => false) (ist hl) (fun y hy => ?_) ?_
  · obtain ⟨z, u, rfl, ne⟩ := hv y (by simpa using hy)
    have := SeqAt.EqAt.str_str (A := A.in1) (s := ⟨h, gs, dr, tk, os⟩) z u x t
    rwa [beq_eq_false_iff_ne.mpr ne] at this
  · have : (vs.toArray.any fun _ => false) = false := by simp
    rw [this]; exact hq
theorem beside_spec {u v : Value} {a b : Option En} {pa : BY} {t : Tok} {Q : Value → Shared → Prop} {n : Nat} (C : Cx w mg mb p loose g) (k : Sub g h) (rm : Rm A (n + 4)) (Ia : OE g u a) (Ib : OE g v b) (fa : ∀ e, a = some e → e.mode = 33188) (fb : ∀ e, b = some e → e.mode = 33188)
    (ret : ∀ D g' h' tk' vs nl, Step [] g h g' h' → Own g' h' [] → g'.get? D = some (lst vs.toArray nl) → All2 (IsCh g') vs (besideC pa a b) → Q (.ref D) ⟨h', gs, dr, tk', os⟩) :
    wpAny (model prog w) A (call (.ref 243) [.bytes pa.toArray t, u, v]) Q E ⟨h, gs, dr, tk, os⟩ := by
  refine wpAny_call ?_
  refine enter (f := 243) (fd := fdOf w 243) (body := bodyOf w 243) (binds := [("path", .bytes pa.toArray t), ("old", u), ("new", v)]) C (Own.nil k) rm (oc := .type "function") (od := none) (osl := #[]) ?a ?b ?c ?d ?e ?walk ?f ?g ?i ?j
  case walk =>
    intro E h₁ tk₁ rm st Z0 z0
    walk_at "sx"
    cases Ia with
    | none =>
      cases Ib with
      | none =>
        walk_at "go"
        rename_i D _ hD st
        refine st.freezeC hD fun g' sg hg st => ?_
        walk_at "go"
        exact ret D g' _ _ [] 0 st.step st.own hg .nil
      | some Ib =>
        rename_i b
        obtain ⟨y, u1, u2, u3, rfl, Ib⟩ := Ib
        walk_at "go"
        refine added_spec C (by assumption : St _ _ _ _ _ _ _ _).own.keep (by assumption) Ib fun z g' h' tk' sp ow I => ?_
        obtain st : St _ _ _ _ _ _ _ _ := by assumption
        have st := st.call (mu₁ := []) sp ow rfl
        walk_at "go"
        rename_i D _ hD st
        refine st.freezeC hD fun g'' sg hg st => ?_
        walk_at "go"
        exact ret D g'' _ _ [.ref z] 0 st.step st.own hg (.cons (I.sub sg) .nil)
    | some Ia =>
      rename_i a
      obtain ⟨x, t1, t2, t3, rfl, Ia⟩ := Ia
      have ma := fa a rfl
      cases Ib with
      | none =>
        walk_at "go"
        refine gone_spec C (by assumption : St _ _ _ _ _ _ _ _).own.keep (by assumption) Ia fun z g' h' tk' sp ow I => ?_
        obtain st : St _ _ _ _ _ _ _ _ := by assumption
        have st := st.call (mu₁ := []) sp ow rfl
        walk_at "go"
        rename_i D _ hD st
        refine st.freezeC hD fun g'' sg hg st => ?_
        walk_at "go"
        exact ret D g'' _ _ [.ref z] 0 st.step st.own hg (.cons (I.sub sg) .nil)
      | some Ib =>
        rename_i b
        obtain ⟨y, u1, u2, u3, rfl, Ib⟩ := Ib
        have mb := fb b rfl
        walk_at "go"
        rw [ma]
        refine kind_spec C (by assumption : St _ _ _ _ _ _ _ _).own.keep (by assumption) fun h' tk' t' sp ow => ?_
        obtain st : St _ _ _ _ _ _ _ _ := by assumption
        have st := st.call (mu₁ := []) sp ow rfl
        walk_at "go"
        rw [mb]
        refine kind_spec C st.own.keep (by assumption) fun h' tk' t'' sp ow => ?_
        have st := st.call (mu₁ := []) sp ow rfl
        walk_at "go"
        rename_i ki _ hki _ _ _ st
        refine st.freezeC hki fun g1 sg1 hg1 st => ?_
        have C := C.sub sg1
        have Ia := Ia.sub sg1
        have Ib := Ib.sub sg1
        refine strNotIn (vs := [.str "file" t', .str "file" t'']) (st.own.keep _ _ hg1) (fun v hv => ?_) ?_
        · simp only [List.mem_cons, List.not_mem_nil, or_false] at hv
          rcases hv with rfl | rfl
          · exact ⟨_, _, rfl, by decide⟩
          · exact ⟨_, _, rfl, by decide⟩
        walk_at "go"
        refine tItem (k := 0) (its := [.str "file" t', .str "file" t'']) (n := 0) ((by assumption : St _ _ _ _ _ _ _ _).own.keep _ _ hg1) (by decide) rfl ?_
        walk_at "go"
        refine tItem (k := 1) (its := [.str "file" t', .str "file" t'']) (n := 0) ((by assumption : St _ _ _ _ _ _ _ _).own.keep _ _ hg1) (by decide) rfl ?_
        walk_at "go"
        first | ((with_reducible refine ifP ?hc ?_); (case hc => exact (by decide))) | rw [if_pos (by decide)]
        walk_at "go"
        refine change_new7 C (by assumption : St _ _ _ _ _ _ _ _).own.keep (by assumption) fun z g' h' tk' sp ow I => ?_
        obtain st : St _ _ _ _ _ _ _ _ := by assumption
        have st := st.call (mu₁ := []) sp ow rfl
        walk_at "go"
        rename_i D _ hD st
        refine st.freezeC hD fun g'' sg hg st => ?_
        walk_at "go"
        refine ret D g'' _ _ [.ref z] 0 st.step st.own hg (.cons ?_ .nil)
        exact IsCh.sub (⟨_, _, _, _, _, _, _, _, _, rfl, I, .some _ _, .some _ _, .some _ _, .some _ _⟩) sg
  all_goals walk_at "kr"
end
end
-- P5
section
theorem lk_some {l : List (BY × BY)} {k o : BY} (h : l.lookup k = some o) : (k, o) ∈ l := by
  induction l with
  | nil => cases h
  | cons x l ih =>
    obtain ⟨a, b⟩ := x
    rw [List.lookup_cons] at h
    split at h
    · rename_i q
      cases h
      rw [eq_of_beq q]
      exact .head _
    · exact .tail _ (ih h)
theorem lk_mem {l : List (BY × BY)} (nd : (l.map (·.1)).Nodup) {k o : BY} (h : (k, o) ∈ l) : l.lookup k = some o := by
  cases e : l.lookup k with
  | none =>
    rw [List.lookup_eq_none_iff] at e
    have := e (k, o) h
    simp at this
  | some o' => rw [uniqKey nd h (lk_some e)]
theorem find_some {es : List En} {k : BY} {e : En} (h : findE es k = some e) : e ∈ es ∧ e.name = k := ⟨List.mem_of_find?_eq_some h, by simpa using List.find?_some h⟩
theorem find_none {es : List En} {k : BY} (h : findE es k = none) : ∀ e ∈ es, e.name ≠ k := fun e he => by simpa using List.find?_eq_none.mp h e he
/-- one side of a comparison: the entries of a folder that may be none -/
structure Side (items : List Thing) (new : List (BY × BY)) (here : BY) (es : List En) : Prop where
  T : TreeO items (new.lookup here) es
  nd : (es.map En.name).Nodup
  z : es.length ≤ 4
  row : ∀ e ∈ es, RowOf new here e
theorem Built.side {items : List Thing} {new : List (BY × BY)} {oid : BY} (B : Built items new [] oid) (here : BY) : ∃ es, Side items new here es := by
  cases e : new.lookup here with
  | none => exact ⟨[], by rw [e]; rfl, by simp, by simp, by simp⟩
  | some o =>
    obtain ⟨es, T, a, b, c⟩ := (B.node here o (lk_some e)).ex
    exact ⟨es, by rw [e]; exact T, b, a, c⟩
theorem Side.file {items : List Thing} {new : List (BY × BY)} {here n : BY} {es : List En} (S : Side items new here es) (hf : here ∈ FsL) (hn : n ∈ fileN here) : ∀ e, findE es n = some e → e.mode = 33188 := fun e he => by
  obtain ⟨a, rfl⟩ := find_some he
  rcases S.row e a with ⟨q, _⟩ | ⟨_, q, _⟩
  · exact q
  · exact absurd q (fFile hf hn).2.2.2
theorem Side.dir {items : List Thing} {new : List (BY × BY)} {oid here n : BY} {es : List En} (B : Built items new [] oid) (S : Side items new here es) (hf : here ∈ FsL) (hn : n ∈ dirN here) :
    (∀ e, findE es n = some e → e.mode = 16384) ∧ (findE es n).map En.oid = new.lookup (joined here n) := by
  have h1 : ∀ e, findE es n = some e → e.mode = 16384 := fun e he => by
    obtain ⟨a, rfl⟩ := find_some he
    rcases S.row e a with ⟨_, q⟩ | ⟨q, _⟩
    · exact absurd hn (fFile hf q).2.2.2
    · exact q
  refine ⟨h1, ?_⟩
  cases e : findE es n with
  | some x =>
    obtain ⟨a, rfl⟩ := find_some e
    have := ((S.row x a).dir (h1 x e)).2
    exact (lk_mem B.nd this).symm
  | none =>
    cases q : new.lookup (joined here n) with
    | none => rfl
    | some o =>
      exfalso
      rcases B.child (lk_some q) with ⟨r, _⟩ | ⟨r, o', es', x, a, b, c, d, f, _, hd, hF⟩
      · exact (fPar hf hn).1 r
      · obtain ⟨rfl, h3⟩ := (fPar hF hd).2 here n hf hn f
        have T := S.T
        rw [lk_mem B.nd a] at T
        have T : TreeAt items o' es := T
        rw [b.uniq T] at c
        exact find_none e x c h3
theorem Side.name {items : List Thing} {new : List (BY × BY)} {here : BY} {es : List En} (S : Side items new here es) : ∀ n ∈ es.map En.name, n ∈ fileN here ++ dirN here := fun n hn => by
  obtain ⟨e, he, rfl⟩ := List.mem_map.mp hn
  rcases S.row e he with ⟨_, q⟩ | ⟨_, q, _⟩
  · exact List.mem_append_left _ q
  · exact List.mem_append_right _ q
/-- what stands in the waiting list -/
structure WaitOk (n1 n2 : List (BY × BY)) (x : Option BY × Option BY × BY) : Prop where
  F : x.2.2 ∈ FsL
  l : x.1 = n1.lookup x.2.2
  r : x.2.1 = n2.lookup x.2.2
  up : ∀ z ∈ FsL, Bel z x.2.2 = true → z ≠ x.2.2 → n1.lookup z ≠ n2.lookup z
structure ChOk (n1 n2 : List (BY × BY)) (c : Ch) : Prop where
  ex : ∃ f ∈ FsL, ∃ n ∈ fileN f, pathOf c = some (joined f n) ∧ (∀ s, c.opath = some s → s = joined f n) ∧ (∀ s, c.npath = some s → s = joined f n) ∧ ∀ z ∈ FsL, Bel z f = true → n1.lookup z ≠ n2.lookup z
theorem WaitOk.all {n1 n2 : List (BY × BY)} {l r : Option BY} {here : BY} (W : WaitOk n1 n2 (l, r, here)) (ne : l ≠ r) : ∀ z ∈ FsL, Bel z here = true → n1.lookup z ≠ n2.lookup z := fun z hz hb => by
  by_cases q : z = here
  · subst q
    have h1 : l = n1.lookup z := W.l
    have h2 : r = n2.lookup z := W.r
    rw [← h1, ← h2]; exact ne
  · exact W.up z hz hb q
theorem WaitOk.kid {n1 n2 : List (BY × BY)} {l r l' r' : Option BY} {here n : BY} (W : WaitOk n1 n2 (l, r, here)) (ne : l ≠ r) (hn : n ∈ dirN here) (h1 : l' = n1.lookup (joined here n)) (h2 : r' = n2.lookup (joined here n)) : WaitOk n1 n2 (l', r', joined here n) :=
  ⟨by have := (fDir W.F hn).2.1; rw [joined_pfx]; exact this, h1, h2, fun z hz hb q => W.all ne z hz (fUp W.F hn hz hb q)⟩
theorem WaitOk.start {items : List Thing} {n1 n2 : List (BY × BY)} {o1 o2 : BY} (B1 : Built items n1 [] o1) (B2 : Built items n2 [] o2) : WaitOk n1 n2 (some o1, some o2, []) :=
  ⟨show ([] : BY) ∈ FsL by decide, (lk_mem B1.nd B1.mem).symm, (lk_mem B2.nd B2.mem).symm, fun z hz hb q => by
    exfalso
    have : (FsL.all fun z => !Bel z [] || z == []) = true := by decide +kernel
    have := all_mem this hz
    rw [hb] at this
    simp at this
    exact q this⟩
theorem ChOk.mk' {n1 n2 : List (BY × BY)} {l r : Option BY} {here n : BY} {a b : Option En} (W : WaitOk n1 n2 (l, r, here)) (ne : l ≠ r) (hn : n ∈ fileN here) : ∀ c ∈ besideC (joined here n) a b, ChOk n1 n2 c := fun c hc => by
  cases a <;> cases b
  · cases hc
  · rw [List.mem_singleton.mp hc]
    exact ⟨here, W.F, n, hn, rfl, fun s e => (nomatch e), fun s e => (Option.some.inj e).symm, W.all ne⟩
  · rw [List.mem_singleton.mp hc]
    exact ⟨here, W.F, n, hn, rfl, fun s e => (Option.some.inj e).symm, fun s e => (nomatch e), W.all ne⟩
  · rw [List.mem_singleton.mp hc]
    exact ⟨here, W.F, n, hn, rfl, fun s e => (Option.some.inj e).symm, fun s e => (Option.some.inj e).symm, W.all ne⟩
noncomputable def filesB (f : BY) : Nat := if f = [] then 6 else if f = [98] then 3 else if f = [98, 47, 100] then 2 else 1
noncomputable def dirsB (f : BY) : Nat := if f = [] then 4 else if f = [98] then 2 else 1
noncomputable def wf (f n : BY) : Nat := if (fileN f).contains n then 1 else filesB (joined f n)
noncomputable def wd (f n : BY) : Nat := if (fileN f).contains n then 0 else dirsB (joined f n)
theorem fact12_all : (FsL.all fun f => decide (((fileN f ++ dirN f).map (wf f)).sum ≤ filesB f) && decide (((fileN f ++ dirN f).map (wd f)).sum + 1 ≤ dirsB f)) = true := by decide +kernel
theorem sum_erase {f : BY → Nat} {a : BY} : ∀ {k : List BY}, a ∈ k → (k.map f).sum = f a + ((k.erase a).map f).sum
  | [], h => by cases h
  | b :: k, h => by
    by_cases q : b = a
    · subst q; simp
    · have h' : a ∈ k := by
        rcases List.mem_cons.mp h with e | h
        · exact absurd e.symm q
        · exact h
      have := sum_erase (f := f) h'
      rw [List.erase_cons_tail (by simpa using q)]
      simp only [List.map_cons, List.sum_cons]
      omega
theorem sum_sub {f : BY → Nat} : ∀ {l k : List BY}, l.Nodup → (∀ x ∈ l, x ∈ k) → (l.map f).sum ≤ (k.map f).sum
  | [], _, _, _ => Nat.zero_le _
  | a :: l, k, nd, h => by
    rw [List.nodup_cons] at nd
    have ha := h a (.head _)
    have := sum_sub (f := f) (l := l) (k := k.erase a) nd.2 fun x hx => (List.mem_erase_of_ne (fun e => nd.1 (by rw [← e]; exact hx))).mpr (h x (.tail _ hx))
    rw [sum_erase ha]
    simp only [List.map_cons, List.sum_cons]
    omega
theorem fSum {f : BY} {ns : List BY} (hf : f ∈ FsL) (nd : ns.Nodup) (h : ∀ n ∈ ns, n ∈ fileN f ++ dirN f) : (ns.map (wf f)).sum ≤ filesB f ∧ (ns.map (wd f)).sum + 1 ≤ dirsB f := by
  have := all_mem fact12_all hf
  simp only [Bool.and_eq_true, decide_eq_true_eq] at this
  have h1 := sum_sub (f := wf f) nd h
  have h2 := sum_sub (f := wd f) nd h
  omega
theorem fSum1 {f n : BY} : (n ∈ fileN f → wf f n = 1 ∧ wd f n = 0) ∧ (n ∉ fileN f → wf f n = filesB (joined f n) ∧ wd f n = dirsB (joined f n)) := by
  unfold wf wd
  constructor
  · intro h
    rw [if_pos (by simpa using h), if_pos (by simpa using h)]; exact ⟨rfl, rfl⟩
  · intro h
    rw [if_neg (by simpa using h), if_neg (by simpa using h)]; exact ⟨rfl, rfl⟩
theorem beside_len {b : BY} {x y : Option En} : (besideC b x y).length ≤ 1 := by cases x <;> cases y <;> simp [besideC]
noncomputable abbrev W3 := Option BY × Option BY × BY
noncomputable def sumF (l : List W3) : Nat := (l.map fun x => filesB x.2.2).sum
noncomputable def sumD (l : List W3) : Nat := (l.map fun x => dirsB x.2.2).sum
theorem sumF_app {a b : List W3} : sumF (a ++ b) = sumF a + sumF b := by simp [sumF]
theorem sumD_app {a b : List W3} : sumD (a ++ b) = sumD a + sumD b := by simp [sumD]
end
-- E1
section
theorem sub_None_by : isSubtype (.type "NoneType") (.type "bytes") = pure false := by rw [isSubtype_type]; kernel_rfl
theorem by_eq_none (a : Array UInt8) (t : Tok) : Gives (Builtin.«bytes.__eq__» ⟨[.bytes a t, .none], []⟩) (.val (Value.notImplemented)) :=
  .of_wp fun M A E s Q h => by
    obtain ⟨hp, g, d, tk, os⟩ := s
    wp_walk
    refine wpAny_of_eq sub_None_by ?_
    wp_walk
    exact ⟨_, rfl, h⟩
theorem none_eq_by (a : Array UInt8) (t : Tok) : Gives (Builtin.«NoneType.__eq__» ⟨[.none, .bytes a t], []⟩) (.val (Value.notImplemented)) :=
  .of_wp fun M A E s Q h => by obtain ⟨hp, g, d, tk, os⟩ := s; wp_walk; exact ⟨_, rfl, h⟩
theorem slot_by_refl : Slot "bytes" (cmpInfo .Eq).2.2 "bytes.__eq__" := FB.slot_bytes_eq
section
variable {prog : Program} {w : World} {A : Around} {E : Value → Shared → Prop} {s : Shared} {Q : Value → Shared → Prop}
theorem eqBN {a : Array UInt8} {t : Tok} (h : Q (.bool false) s) : wpAny (model prog w) A (compareOp .Eq (.bytes a t) .none) Q E s := by
  show wpAny _ A (richCompare .Eq _ _) Q E s
  exact EqNone.wpAny_richCompare_eq_decline (k := false) (fun s' => typeIs_bytes s' a t) (fun _ => rfl) (by decide) sub_None_by FB.slot_bytes_eq PySem.F.slot_NoneType_eq_refl rfl
    (call_gives FB.slot_bytes_eq (typeIs_bytes s a t) FB.entry_bytes_eq (FB.args_bytes_eq_2 _ _) (by_eq_none a t)
      ⟨rfl, call_gives PySem.F.slot_NoneType_eq_refl rfl PySem.F.entry_NoneType_eq (PySem.F.args_NoneType_eq_2 _ _) (none_eq_by a t) ⟨rfl, h⟩⟩)
theorem eqNB {a : Array UInt8} {t : Tok} (h : Q (.bool false) s) : wpAny (model prog w) A (compareOp .Eq .none (.bytes a t)) Q E s := by
  show wpAny _ A (richCompare .Eq _ _) Q E s
  exact EqNone.wpAny_richCompare_eq_decline (k := false) (fun _ => rfl) (fun s' => typeIs_bytes s' a t) (by decide) PySem.F.sub_bytes_NoneType PySem.F.slot_NoneType_eq slot_by_refl rfl
    (call_gives PySem.F.slot_NoneType_eq rfl PySem.F.entry_NoneType_eq (PySem.F.args_NoneType_eq_2 _ _) (none_eq_by a t)
      ⟨rfl, call_gives slot_by_refl (typeIs_bytes s a t) FB.entry_bytes_eq (FB.args_bytes_eq_2 _ _) (by_eq_none a t) ⟨rfl, h⟩⟩)
theorem eqOB {u v : Value} {a b : Option BY} (x : OB u a) (y : OB v b) (h : Q (.bool (a == b)) s) : wpAny (model prog w) A (compareOp .Eq u v) Q E s := by
  cases x with
  | none => cases y with
    | none => exact EqNone.eq_none_none h
    | some _ _ => exact eqNB h
  | some a t => cases y with
    | none => exact eqBN h
    | some b u =>
      refine PySem.W.eq_bytes ?_
      have e : (some a == some b) = (a.toArray.toList == b.toArray.toList) := rfl
      rw [← e]; exact h
end
end
-- F23
section
section
variable {prog : Program} {w : World} {mg mb : Str → Option Value} {p : Program} {loose : List Str} {A : Around} {E : Value → Shared → Prop}
  {g h : Heap} {mu : List (Addr × Obj)} {gs : Array GenState} {dr : Drawn} {tk : Nat} {os : OsState}
theorem testsOne {M : Model} {E : Value → Shared → Prop} {s : Shared} {c : PySem.Expr} {cenv : Env} {Q : Bool → Shared → Prop} (hq : wpAny M A (isTrue c cenv (eval c cenv)) Q E s) : wpAny M A (testsOf [c] cenv) Q E s := by
  unfold testsOf
  rw [List.forIn_cons]
  refine wpAny_bind ?_
  rw [if_pos rfl]
  refine wpAny_bind (wpAny_mono hq (fun b s' q => ?_) fun _ _ x => x)
  refine wpAny_pure ?_
  show wpAny M A (forIn [] b _) Q E s'
  rw [List.forIn_nil]
  exact wpAny_pure q
noncomputable def isDirO : Option En → Bool
  | some e => e.mode == 16384
  | none => false
/-- «x is not None and x.mode == DIR» -/
theorem wasD {gE hE g h : Heap} {S' : List Addr} {L : Addr} {m : Str → Option Value} {mu : List (Addr × Obj)} {env : Env} {x : Str} {u : Value} {a : Option En} {p1 p2 p3 p4 p5 p6 p7 p8 : Pos} {k : Nat} {Q : Value → Shared → Prop}
    (st : St gE hE S' g L m mu h) (C : Cx w mg mb p loose g) (hv : m x = some u) (I : OE g u a) {da : Bool} (hda : isDirO a = da) (hq : ∀ tk', Q (.bool da) ⟨h, gs, dr, tk', os⟩)
    (hL : env.locals = L := by kernel_rfl) (hn : nameIs env x .local = true := by kernel_rfl) (hd : (x == ("__debug__" : Str)) = false := by kernel_rfl)
    (hy : globIs env "DIR" = true := by kernel_rfl) (hA : A.handled = none := by assumption) :
    wpAny (model prog w) A (eval (.BoolOp .And [.Compare (.Name x p1) [.IsNot] [.Constant .none k p2] p3, .Compare (.Attribute (.Name x p4) "mode" p5) [.Eq] [.Name "DIR" p6] p7] p8) env) Q E ⟨h, gs, dr, tk, os⟩ := by
  subst hda
  refine BoolOp_and ?_
  refine xCompare ?_ rfl
  refine nL st hv ?_ hL hn hd
  cases I with
  | none =>
    refine wpAny_Constant_none ?_
    refine notNoneN ?_
    refine wpAny_truthy_bool ?_
    refine ifF ?_
    exact hq _
  | some I =>
    obtain ⟨y, t1, t2, t3, rfl, I⟩ := I
    refine wpAny_Constant_none ?_
    refine notNoneR ?_
    refine wpAny_truthy_bool ?_
    refine ifT ?_
    refine BoolOp_one ?_
    refine xCompare ?_ rfl
    refine xAttrN ?_
    refine nL st hv ?_ hL hn hd
    refine aF st C I (by kernel_rfl!) rfl rfl fun _ => ?_
    refine nG st C g_DIR ?_ hy rfl
    refine eqI ?_
    rename_i e _
    have : ((e.mode : Int) == 16384) = isDirO (some e) := by
      show _ = (e.mode == 16384)
      by_cases q : e.mode = 16384
      · rw [q]; rfl
      · rw [beq_eq_false_iff_ne.mpr q, beq_eq_false_iff_ne.mpr (by omega)]
    rw [this]
    exact hq _

/-- two ids that may be none, and a path -/
noncomputable def IsW3 (g : Heap) (v : Value) (x : W3) : Prop := ∃ a n v1 v2 t, v = .ref a ∧ g.get? a = some (tup #[v1, v2, .bytes x.2.2.toArray t] n) ∧ OB v1 x.1 ∧ OB v2 x.2.1
theorem IsW3.sub {g g' : Heap} {v : Value} {x : W3} (I : IsW3 g v x) (k : Sub g g') : IsW3 g' v x := let ⟨a, n, v1, v2, t, e, b, c⟩ := I; ⟨a, n, v1, v2, t, e, k _ _ b, c⟩
theorem dirsB_pos {f : BY} : 1 ≤ dirsB f := by unfold dirsB; split <;> (try split) <;> omega
theorem filesB_pos {f : BY} : 1 ≤ filesB f := by unfold filesB; split <;> (try split) <;> (try split) <;> omega
theorem len_sumF : ∀ (l : List W3), l.length ≤ sumF l
  | [] => Nat.zero_le _
  | x :: l => by
    have := len_sumF l
    have h := filesB_pos (f := x.2.2)
    simp only [sumF, List.map_cons, List.sum_cons, List.length_cons] at *
    omega
structure DW (n1 n2 : List (BY × BY)) (g : Heap) (vs : List Value) (cs : List Ch) (ws : List Value) (os : List W3) (B : Nat) : Prop where
  va : All2 (IsCh g) vs cs
  wa : All2 (IsW3 g) ws os
  co : ∀ c ∈ cs, ChOk n1 n2 c
  wo : ∀ x ∈ os, WaitOk n1 n2 x
  z : cs.length + sumF os ≤ B

theorem BysAre.append : ∀ {vs us : List Value} {bs cs : List BY}, BysAre vs bs → BysAre us cs → BysAre (vs ++ us) (bs ++ cs)
  | _, _, _, _, .nil, h => h
  | _, _, _, _, .cons r, h => .cons (r.append h)
end
end
-- F25
section
section
variable {prog : Program} {w : World} {mg mb : Str → Option Value} {p : Program} {loose : List Str} {A : Around} {E : Value → Shared → Prop}
  {g h : Heap} {mu : List (Addr × Obj)} {gs : Array GenState} {dr : Drawn} {tk : Nat} {os : OsState}
theorem walksOwnF25_1 : True := by
  k_with "go1" => first | (((with_reducible refine' wasD (by assumption) (by assumption) ?hv ?ho ?hd ?_); (case hv => walk_at "fr"); (case ho => assumption); (case hd => assumption); intro _)) | fail "no"
  trivial
noncomputable def dfBody (w : World) : List Stmt := match (bodyOf w 256).drop 2 with
  | .While _ b _ _ :: _ => b
  | _ => []
noncomputable def dfIn (w : World) : List Stmt := match (dfBody w).drop 4 with
  | .For _ _ b _ _ :: _ => b
  | _ => []
theorem here_len {f : BY} (hf : f ∈ FsL) : f.length ≤ 10 := by
  have h1 := (fPfx hf).1
  have h2 := (fPfx hf).2.1
  rw [← h1, List.length_dropLast]
  omega
set_option maxHeartbeats 4000000 in
theorem diff_name {gE hE g h : Heap} {S' : List Addr} {m : Str → Option Value} {L0 cl F W D1 D2 S I : Addr} {oI oC : Obj} {items : List Thing} {n1 n2 : List (BY × BY)} {o1 o2 here nm : BY} {l r : Option BY} {es1 es2 : List En} {kv1 kv2 : List (BY × Value)} {vs ws : List Value} {cs : List Ch} {os' : List W3} {nlF nlW Bd Dd n : Nat} {th tn : Tok}
    {Q : Flow → Shared → Prop} {body : List Stmt} (hbody : body = dfIn w) (hcl : L0 + 1 = cl) (C : Cx w mg mb p loose g) (rm : Rm A (n + 7)) (B1 : Built items n1 [] o1) (B2 : Built items n2 [] o2) (S1 : Side items n1 here es1) (S2 : Side items n2 here es2) (hw : WaitOk n1 n2 (l, r, here)) (ne : l ≠ r)
    (DF1 : DF prog w g D1 kv1) (M1 : IsEM g kv1 es1) (DF2 : DF prog w g D2 kv2) (M2 : IsEM g kv2 es2) (hnm : nm ∈ fileN here ++ dirN here) (hc : oC.data = .cell (some (.ref D1)))
    (st : St gE hE S' g L0 m [(I, oI), (F, lst vs.toArray nlF), (W, lst ws.toArray nlW), (cl, oC)] h) (V : DW n1 n2 g vs cs ws os' Bd) (sD : sumD os' ≤ Dd) (zv : vs.length ≤ 100) (zw : ws.length ≤ 100)
    (m1 : m "store" = some (.ref S)) (m2 : m "found" = some (.ref F)) (m3 : m "waiting" = some (.ref W)) (m4 : m "deep" = some (.bool true)) (m5 : m "here" = some (.bytes here.toArray th)) (m6 : m "news" = some (.ref D2)) (m7 : m "name" = some (.bytes nm.toArray tn))
    (post : ∀ g' h' m' vs' cs' ws' os'' nlF' nlW' tk', Sub g g' → St gE hE S' g' L0 m' [(I, oI), (F, lst vs'.toArray nlF'), (W, lst ws'.toArray nlW'), (cl, oC)] h' → DW n1 n2 g' vs' cs' ws' os'' (Bd + wf here nm) → sumD os'' ≤ Dd + wd here nm →
      m' "store" = some (.ref S) → m' "found" = some (.ref F) → m' "waiting" = some (.ref W) → m' "deep" = some (.bool true) → m' "here" = some (.bytes here.toArray th) → m' "news" = some (.ref D2) → Q .next ⟨h', gs, dr, tk', os⟩ ∧ Q .cont ⟨h', gs, dr, tk', os⟩) :
    wpAny (model prog w) A (execs body (callEnvC (fdOf w 256) L0 256)) Q E ⟨h, gs, dr, tk, os⟩ := by
  subst hbody
  have hF : here ∈ FsL := hw.F
  have hhl : here.length ≤ 10 := here_len hF
  walk_at "sx"
  with_reducible refine Assign_Tuple_swapped (names := ["old", "new"]) ?_ (by kernel_rfl!) (by kernel_rfl!)
  refine Tuple_ ?_
  refine xSplCons ?_
  refine xMethod ?_
  refine nC (st.at 3 rfl) hc ?_ (cellAt (by kernel_rfl) hcl)
  refine dGetM (DF1.sub st.own.keep) ?_
  walk_at "go"
  refine dGet (DF1.sub st.own.keep) fun _ => ?_
  refine xSplCons ?_
  refine xMethod ?_
  walk_at "go"
  refine dGetM (DF2.sub st.own.keep) ?_
  walk_at "go"
  refine dGet (DF2.sub st.own.keep) fun _ => ?_
  have Oa := M1.look (k := nm)
  have Ob := M2.look (k := nm)
  generalize (valueAt kv1 nm).getD .none = u at Oa ⊢
  generalize (valueAt kv2 nm).getD .none = v at Ob ⊢
  walk_at "go"
  rename_i tu _ htu st
  refine uTup st rm.hh (st.at 0 rfl) rfl fun h' st => ?_
  have st := st.sub (List.sublist_cons_self _ _)
  refine aSw (n := "new") (ns := ["old"]) (x := v) (xs := [u]) ?_
  walk_at "go"
  refine aSw ?_
  walk_at "go"
  refine aSw0 ?_
  walk_at "go"
  refine alike_spec C (by assumption : St _ _ _ _ _ _ _ _).own.keep (rm.mono (show n + 1 ≤ n + 7 by omega)) Oa Ob fun h' tk' sp ow => ?_
  obtain st : St _ _ _ _ _ _ _ _ := by assumption
  have st := st.call (mu₁ := []) sp ow rfl
  walk_at "go"
  by_cases hal : alikeB (findE es1 nm) (findE es2 nm) = true
  · first | ((with_reducible refine ifP ?hc ?_); (case hc => exact hal)) | rw [if_pos hal]
    walk_at "go"
    exact (post g _ _ vs cs ws os' nlF nlW _ Sub.rfl st ⟨V.va, V.wa, V.co, V.wo, by have := V.z; omega⟩ (by omega) (by walk_at "fr") (by walk_at "fr") (by walk_at "fr") (by walk_at "fr") (by walk_at "fr") (by walk_at "fr")).2
  first | ((with_reducible refine ifN ?hc ?_); (case hc => exact hal)) | rw [if_neg hal]
  walk_at "go"
  have hnl : nm.length ≤ 3 := by
    rcases List.mem_append.mp hnm with q | q
    · exact (fFile hF q).1.2
    · exact (fDir hF q).1.2
  refine joined_spec (fo := here) (na := nm) C (by assumption : St _ _ _ _ _ _ _ _).own.keep (rm.mono (show n + 1 ≤ n + 7 by omega)) (by omega) fun h' tk' tj sp ow => ?_
  obtain st : St _ _ _ _ _ _ _ _ := by assumption
  have st := st.call (mu₁ := []) sp ow rfl
  have hAh := rm.hh
  obtain ⟨a, hfa⟩ : ∃ a, findE es1 nm = a := ⟨_, rfl⟩
  obtain ⟨b, hfb⟩ : ∃ b, findE es2 nm = b := ⟨_, rfl⟩
  rw [hfa] at Oa
  rw [hfb] at Ob
  obtain ⟨da, hda⟩ : ∃ d, isDirO a = d := ⟨_, rfl⟩
  obtain ⟨db, hdb⟩ : ∃ d, isDirO b = d := ⟨_, rfl⟩
  walk_at "go"
  have fin : ∀ {g' h' : Heap} {m' : Str → Option Value} {xs ws' : List Value} {os'' : List W3} {nlF' nlW' tk' : Nat} {a' b' : Option En}, Sub g g' → St gE hE S' g' L0 m' [(I, oI), (F, lst (vs ++ xs).toArray nlF'), (W, lst ws'.toArray nlW'), (cl, oC)] h' →
      All2 (IsCh g') xs (besideC (joined here nm) a' b') → All2 (IsW3 g') ws' os'' → (∀ x ∈ os'', WaitOk n1 n2 x) → (∀ c ∈ besideC (joined here nm) a' b', ChOk n1 n2 c) → (besideC (joined here nm) a' b').length + sumF os'' ≤ sumF os' + wf here nm → sumD os'' ≤ Dd + wd here nm →
      m' "store" = some (.ref S) → m' "found" = some (.ref F) → m' "waiting" = some (.ref W) → m' "deep" = some (.bool true) → m' "here" = some (.bytes here.toArray th) → m' "news" = some (.ref D2) → Q .next ⟨h', gs, dr, tk', os⟩ := by
    intro g' h' m' xs ws' os'' nlF' nlW' tk' a' b' sg st xa wa wo hco hz hd m1 m2 m3 m4 m5 m6
    refine (post g' _ _ (vs ++ xs) (cs ++ besideC (joined here nm) a' b') ws' os'' nlF' nlW' _ sg st ⟨(V.va.mono fun _ _ q => q.sub sg).append xa, wa, fun c hc => ?_, wo, ?_⟩ hd m1 m2 m3 m4 m5 m6).1
    · rcases List.mem_append.mp hc with hc | hc
      · exact V.co c hc
      · exact hco c hc
    · have := V.z
      rw [List.length_append]
      omega
  rcases List.mem_append.mp hnm with hfile | hdir
  · have fA : ∀ e, a = some e → e.mode = 33188 := fun e he => S1.file hF hfile e (hfa.trans he)
    have fB : ∀ e, b = some e → e.mode = 33188 := fun e he => S2.file hF hfile e (hfb.trans he)
    obtain rfl : da = false := by
      rw [← hda]
      cases a with
      | none => rfl
      | some e => show (e.mode == 16384) = false; rw [fA e rfl]; rfl
    obtain rfl : db = false := by
      rw [← hdb]
      cases b with
      | none => rfl
      | some e => show (e.mode == 16384) = false; rw [fB e rfl]; rfl
    obtain ⟨w1, w2⟩ := fSum1.1 hfile
    walk_at "go"
    refine beside_spec (a := a) (b := b) (n := n + 3) C (by assumption : St _ _ _ _ _ _ _ _).own.keep rm Oa Ob fA fB fun D g2 h2 tk2 xs nl sp ow hD xa => ?_
    obtain st : St _ _ _ _ _ _ [(I, oI), (F, lst vs.toArray nlF), (W, lst ws.toArray nlW), (cl, oC)] _ := by assumption
    have st := st.call (mu₁ := []) sp ow rfl
    walk_at "go"
    refine lExtend st 1 rfl (st.own.keep _ _ hD) (by have := xa.length; have := beside_len (b := joined here nm) (x := a) (y := b); omega) fun h3 nl3 st => ?_
    walk_at "go"
    exact fin sp.sub st xa (V.wa.mono fun _ _ q => q.sub sp.sub) V.wo (ChOk.mk' hw ne hfile) (by have := beside_len (b := joined here nm) (x := a) (y := b); omega) (by omega) (by walk_at "fr") (by walk_at "fr") (by walk_at "fr") (by walk_at "fr") (by walk_at "fr") (by walk_at "fr")
  · have hnf : nm ∉ fileN here := fun q => (fFile hF q).2.2.2 hdir
    obtain ⟨w1, w2⟩ := fSum1.2 hnf
    obtain ⟨dA, eA⟩ := S1.dir B1 hF hdir
    obtain ⟨dB, eB⟩ := S2.dir B2 hF hdir
    rw [hfa] at dA eA
    rw [hfb] at dB eB
    have hkid := hw.kid ne hdir eA eB
    have hnn : besideC (joined here nm) none none = [] := rfl
    have sF : ∀ x y, sumF (os' ++ [(x, y, joined here nm)]) = sumF os' + filesB (joined here nm) := fun x y => by rw [sumF_app]; simp [sumF]
    have sDD : ∀ x y, sumD (os' ++ [(x, y, joined here nm)]) = sumD os' + dirsB (joined here nm) := fun x y => by rw [sumD_app]; simp [sumD]
    have wo' : ∀ z ∈ os' ++ [(a.map En.oid, b.map En.oid, joined here nm)], WaitOk n1 n2 z := fun z hz => by
      rcases List.mem_append.mp hz with hz | hz
      · exact V.wo z hz
      · rw [List.mem_singleton.mp hz]; exact hkid
    cases Oa with
    | none =>
      obtain rfl : da = false := hda.symm
      cases Ob with
      | none =>
        obtain rfl : db = false := hdb.symm
        walk_at "go"
        refine beside_spec (a := none) (b := none) (n := n + 3) C (by assumption : St _ _ _ _ _ _ _ _).own.keep rm .none .none (fun e he => nomatch he) (fun e he => nomatch he) fun D g2 h2 tk2 xs nl sp ow hD xa => ?_
        obtain st : St _ _ _ _ _ _ [(I, oI), (F, lst vs.toArray nlF), (W, lst ws.toArray nlW), (cl, oC)] _ := by assumption
        have st := st.call (mu₁ := []) sp ow rfl
        walk_at "go"
        refine lExtend st 1 rfl (st.own.keep _ _ hD) (by have := xa.length; have := beside_len (b := joined here nm) (x := none) (y := none); omega) fun h3 nl3 st => ?_
        walk_at "go"
        exact fin sp.sub st xa (V.wa.mono fun _ _ q => q.sub sp.sub) V.wo (fun c hc => nomatch hc) (by rw [hnn, List.length_nil]; omega) (by omega) (by walk_at "fr") (by walk_at "fr") (by walk_at "fr") (by walk_at "fr") (by walk_at "fr") (by walk_at "fr")
      | some Ib =>
        rename_i eb
        obtain ⟨y, u1, u2, u3, rfl, Ib⟩ := Ib
        obtain rfl : db = true := by rw [← hdb]; show (eb.mode == 16384) = true; rw [dB eb rfl]; rfl
        walk_at "go"
        rename_i tp2 _ htp2 st
        refine st.freezeC htp2 fun g1 sg1 hg1 st => ?_
        refine lAppend st 2 rfl (by omega) fun h' st => ?_
        have C := C.sub sg1
        walk_at "go"
        refine beside_spec (a := none) (b := none) (n := n + 3) C (by assumption : St _ _ _ _ _ _ _ _).own.keep rm .none .none (fun e he => nomatch he) (fun e he => nomatch he) fun D g2 h2 tk2 xs nl sp ow hD xa => ?_
        obtain st : St _ _ _ _ _ _ [(I, oI), (F, lst vs.toArray nlF), (W, lst (ws ++ [Value.ref tp2]).toArray (nlW + 1)), (cl, oC)] _ := by assumption
        have st := st.call (mu₁ := []) sp ow rfl
        walk_at "go"
        refine lExtend st 1 rfl (st.own.keep _ _ hD) (by have := xa.length; have := beside_len (b := joined here nm) (x := none) (y := none); omega) fun h3 nl3 st => ?_
        walk_at "go"
        exact fin (sg1.trans sp.sub) st xa (((V.wa.mono fun _ _ q => q.sub sg1).snoc (show IsW3 g1 (.ref tp2) (none, some eb.oid, joined here nm) from ⟨tp2, _, _, _, _, rfl, hg1, .none, .some _ _⟩)).mono fun _ _ q => q.sub sp.sub) wo' (fun c hc => nomatch hc) (by rw [hnn, List.length_nil, sF]; omega) (by rw [sDD]; omega) (by walk_at "fr") (by walk_at "fr") (by walk_at "fr") (by walk_at "fr") (by walk_at "fr") (by walk_at "fr")
    | some Ia =>
      rename_i ea
      obtain ⟨x, t1, t2, t3, rfl, Ia⟩ := Ia
      obtain rfl : da = true := by rw [← hda]; show (ea.mode == 16384) = true; rw [dA ea rfl]; rfl
      cases Ob with
      | none =>
        obtain rfl : db = false := hdb.symm
        walk_at "go"
        rename_i tp2 _ htp2 st
        refine st.freezeC htp2 fun g1 sg1 hg1 st => ?_
        refine lAppend st 2 rfl (by omega) fun h' st => ?_
        have C := C.sub sg1
        walk_at "go"
        refine beside_spec (a := none) (b := none) (n := n + 3) C (by assumption : St _ _ _ _ _ _ _ _).own.keep rm .none .none (fun e he => nomatch he) (fun e he => nomatch he) fun D g2 h2 tk2 xs nl sp ow hD xa => ?_
        obtain st : St _ _ _ _ _ _ [(I, oI), (F, lst vs.toArray nlF), (W, lst (ws ++ [Value.ref tp2]).toArray (nlW + 1)), (cl, oC)] _ := by assumption
        have st := st.call (mu₁ := []) sp ow rfl
        walk_at "go"
        refine lExtend st 1 rfl (st.own.keep _ _ hD) (by have := xa.length; have := beside_len (b := joined here nm) (x := none) (y := none); omega) fun h3 nl3 st => ?_
        walk_at "go"
        exact fin (sg1.trans sp.sub) st xa (((V.wa.mono fun _ _ q => q.sub sg1).snoc (show IsW3 g1 (.ref tp2) (some ea.oid, none, joined here nm) from ⟨tp2, _, _, _, _, rfl, hg1, .some _ _, .none⟩)).mono fun _ _ q => q.sub sp.sub) wo' (fun c hc => nomatch hc) (by rw [hnn, List.length_nil, sF]; omega) (by rw [sDD]; omega) (by walk_at "fr") (by walk_at "fr") (by walk_at "fr") (by walk_at "fr") (by walk_at "fr") (by walk_at "fr")
      | some Ib =>
        rename_i eb
        obtain ⟨y, u1, u2, u3, rfl, Ib⟩ := Ib
        obtain rfl : db = true := by rw [← hdb]; show (eb.mode == 16384) = true; rw [dB eb rfl]; rfl
        walk_at "go"
        rename_i tp2 _ htp2 st
        refine st.freezeC htp2 fun g1 sg1 hg1 st => ?_
        refine lAppend st 2 rfl (by omega) fun h' st => ?_
        have C := C.sub sg1
        walk_at "go"
        refine beside_spec (a := none) (b := none) (n := n + 3) C (by assumption : St _ _ _ _ _ _ _ _).own.keep rm .none .none (fun e he => nomatch he) (fun e he => nomatch he) fun D g2 h2 tk2 xs nl sp ow hD xa => ?_
        obtain st : St _ _ _ _ _ _ [(I, oI), (F, lst vs.toArray nlF), (W, lst (ws ++ [Value.ref tp2]).toArray (nlW + 1)), (cl, oC)] _ := by assumption
        have st := st.call (mu₁ := []) sp ow rfl
        walk_at "go"
        refine lExtend st 1 rfl (st.own.keep _ _ hD) (by have := xa.length; have := beside_len (b := joined here nm) (x := none) (y := none); omega) fun h3 nl3 st => ?_
        walk_at "go"
        exact fin (sg1.trans sp.sub) st xa (((V.wa.mono fun _ _ q => q.sub sg1).snoc (show IsW3 g1 (.ref tp2) (some ea.oid, some eb.oid, joined here nm) from ⟨tp2, _, _, _, _, rfl, hg1, .some _ _, .some _ _⟩)).mono fun _ _ q => q.sub sp.sub) wo' (fun c hc => nomatch hc) (by rw [hnn, List.length_nil, sF]; omega) (by rw [sDD]; omega) (by walk_at "fr") (by walk_at "fr") (by walk_at "fr") (by walk_at "fr") (by walk_at "fr") (by walk_at "fr")
end
end
theorem walksAgain_1 : True := by
  k_with_none
  k_with "g" => first
    | with_reducible exact g_ADDED
    | with_reducible exact g_BLOB
    | with_reducible exact g_CountingHasher
    | with_reducible exact g_DIR
    | with_reducible exact g_Entry
    | with_reducible exact g_FILE
    | with_reducible exact g_FOLDER
    | with_reducible exact g_GONE
    | with_reducible exact g_LINK
    | with_reducible exact g_MODULE
    | with_reducible exact g_MemoryStore
    | with_reducible exact g_OBJECT_MODES
    | with_reducible exact g_OTHER
    | with_reducible exact g_OTHER_KIND
    | with_reducible exact g_PLAIN
    | with_reducible exact g_PathChange
    | with_reducible exact g_SUB
    | with_reducible exact g_TREE
    | with_reducible exact g_Tree
    | with_reducible exact g__law_deck
    | with_reducible exact g__law_draw
    | with_reducible exact g__law_row
    | with_reducible exact g__law_touches
    | with_reducible exact g__law_tree
    | with_reducible exact b_bytearray
    | with_reducible exact b_bytes
    | with_reducible exact b_int
    | with_reducible exact b_len
    | with_reducible exact b_ord
    | with_reducible exact b_range
    | with_reducible exact b_sorted
    | with_reducible exact b_str
    | with_reducible exact g_big_endian
    | with_reducible exact g_check_tree
    | with_reducible exact g_diff_trees
    | with_reducible exact g_object_are_all
    | with_reducible exact g_object_by_eights
    | with_reducible exact g_object_has_sign
    | with_reducible exact g_object_name_fault
    | with_reducible exact g_object_octets
    | with_reducible exact g_octets_of
    | with_reducible exact g_tree_faults
    | with_reducible exact g_treediff_added
    | with_reducible exact g_treediff_beside
    | with_reducible exact g_treediff_entries
    | with_reducible exact g_treediff_folders
    | with_reducible exact g_treediff_gone
    | with_reducible exact g_treediff_is_alike
    | with_reducible exact g_treediff_joined
    | with_reducible exact g_treediff_kind
    | with_reducible exact g_treediff_order
    | with_reducible exact g_treediff_within
    | fail "no"
  k_with "m" => first
    | with_reducible exact m_108_digest
    | with_reducible exact m_314_sort_key
    | with_reducible exact m_314_octets
    | with_reducible exact m_363_octets
    | with_reducible exact m_525_keep
    | with_reducible exact m_525_write
    | with_reducible exact m_525_write_tree
    | with_reducible exact m_525_row_of
    | with_reducible exact m_525_of_kind
    | with_reducible exact m_525_tree
    | fail "no"
  k_with "sz" => first | (with_reducible assumption) | omega | (simp only [List.length_append, List.length_cons, List.length_nil, List.size_toArray]; omega) | (simp only [List.length_append, List.length_cons, List.length_nil, List.size_toArray] at *; omega) | fail "no"
  k_with "at" => first | (with_reducible exact St.at (by assumption) 0 rfl) | (with_reducible exact St.at (by assumption) 1 rfl) | (with_reducible exact St.at (by assumption) 2 rfl) | (with_reducible exact St.at (by assumption) 3 rfl) | (with_reducible exact St.at (by assumption) 4 rfl) | (with_reducible exact St.at (by assumption) 5 rfl) | (with_reducible exact St.at (by assumption) 6 rfl) | (exact (St.own (by assumption)).keep _ _ (by assumption)) | fail "no"
  k_with "df" => first | (with_reducible exact St.dict (by assumption) 0 rfl (by assumption)) | (with_reducible exact St.dict (by assumption) 1 rfl (by assumption)) | (with_reducible exact St.dict (by assumption) 2 rfl (by assumption)) | (with_reducible exact St.dict (by assumption) 3 rfl (by assumption)) | (with_reducible exact St.dict (by assumption) 4 rfl (by assumption)) | (with_reducible exact St.dict (by assumption) 5 rfl (by assumption)) | (with_reducible exact DF.sub (by assumption) (St.own (by assumption)).keep) | fail "no"
  k_with "fr" => first | exact rfl | assumption | (refine updN (by decide) ?_; first | exact rfl | assumption | (refine updN (by decide) ?_; first | exact rfl | assumption | (refine updN (by decide) ?_; first | exact rfl | assumption | (refine updN (by decide) ?_; first | exact rfl | assumption)))) | fail "no"
  k_with "sx" => first | ((try ((with_reducible refine zNx zA ?_); clear zA zB; (try clear zZ))); refine xExecsZ ?_; intro zZ zA zB) | fail "no"
  k_with "go" => repeat' (walk_at "go1")
  k_with "kr" => first | kernel_rfl! | (refine BindsTo.of_eq ?_; kernel_rfl!) | fail "no"
  k_with "go1" => first
    | ((with_reducible show wpAny _ _ (eval _ _) _ _ _); first
      | ((with_reducible show wpAny _ _ (eval (Expr.Name _ _) _) _ _ _); first | ((with_reducible refine' nL (by assumption) ?hv ?_); (case hv => walk_at "fr")) | ((with_reducible refine' nG (by assumption) (by assumption) ?hg ?_); (case hg => walk_at "g")) | ((with_reducible refine' nB (by assumption) (by assumption) ?hb ?_); (case hb => walk_at "g")))
      | (with_reducible refine xAttrN ?_)
      | (with_reducible refine xAttr ?_)
      | ((with_reducible show wpAny _ _ (eval (Expr.Constant ..) _) _ _ _); first
        | ((with_reducible refine conBy ?_); intro _ _)
        | ((with_reducible refine conInt ?_); intro _ _)
        | ((with_reducible refine conStr ?_); intro _ _)
        | (with_reducible refine wpAny_Constant_none ?_)
        | (with_reducible refine wpAny_Constant_bool ?_))
      | (with_reducible refine xMethod ?_)
      | (with_reducible refine xCall ?_)
      | (with_reducible refine xCut ?_)
      | (with_reducible refine Subscript_ ?_)
      | (with_reducible refine xCompare ?_)
      | (with_reducible refine wpAny_BinOp ?_)
      | (with_reducible refine Tuple_ ?_)
      | (with_reducible refine List_ ?_)
      | (with_reducible refine wpAny_IfExp ?_)
      | ((with_reducible refine' dNew (by assumption) (by assumption) ?_); intro _ _ _ _ _ _)
      | (with_reducible refine BoolOp_and ?_)
      | (with_reducible refine BoolOp_or ?_)
      | (with_reducible refine BoolOp_one ?_))
    | ((with_reducible show wpAny _ _ (callWith _ _ _ _ _) _ _ _); first
      | (with_reducible refine cBn ?_)
      | (with_reducible refine cB1 ?_)
      | (with_reducible refine cB01 ?_)
      | (with_reducible refine cT ?_)
      | ((with_reducible refine cGn ?hk ?_); (case hk => kernel_rfl!))
      | ((with_reducible refine cG1 ?hk ?_); (case hk => kernel_rfl!))
      | ((with_reducible refine cG01 (by assumption) (by assumption) ?hk ?_); (case hk => kernel_rfl!)))
    | ((with_reducible show wpAny _ _ (spliced _) _ _ _); first
      | (with_reducible refine xSplCons ?_)
      | (with_reducible refine xSplNil ?_))
    | ((with_reducible refine xExecsZ ?_); intro zZ zA zB)
    | (with_reducible refine wpAny_execs_nil ?_)
    | ((with_reducible show wpAny _ _ (exec _ _) _ _ _); first
      | (with_reducible refine xAssign ?_)
      | (with_reducible refine xAssignSub ?_)
      | (with_reducible refine xAssignAttr ?_)
      | (with_reducible refine xExpr ?_)
      | (with_reducible refine xIf ?_)
      | (with_reducible refine wpAny_Return_some ?_)
      | (with_reducible refine xFor ?_)
      | (with_reducible refine xWhile ?_)
      | (with_reducible refine wpAny_Continue ?_)
      | (with_reducible refine wpAny_Break ?_))
    | ((with_reducible show wpAny _ _ (PySem.isTrue _ _ _) _ _ _); first
      | (with_reducible refine xIsCompare ?_)
      | (with_reducible refine isTrue_and_nil ?_)
      | (with_reducible refine isTrue_and ?_)
      | (with_reducible refine isTrue_or_nil ?_)
      | (with_reducible refine isTrue_or ?_)
      | (with_reducible refine isTrue_not ?_)
      | (with_reducible refine isTrue_IfExp ?_)
      | (with_reducible refine xIsPlain ?_))
    | ((with_reducible show wpAny _ _ (compareOp _ _ _) _ _ _); first
      | (with_reducible refine eqB ?_)
      | (with_reducible refine neB ?_)
      | (with_reducible refine eqI ?_)
      | (with_reducible refine neI ?_)
      | (with_reducible refine gtI ?_)
      | (with_reducible refine geI ?_)
      | (with_reducible refine eqS ?_)
      | (with_reducible refine isNoneN ?_)
      | (with_reducible refine isNoneR ?_)
      | (with_reducible refine isNoneB ?_)
      | (with_reducible refine notNoneN ?_)
      | (with_reducible refine notNoneR ?_)
      | (with_reducible refine notNoneB ?_)
      | ((with_reducible refine' dIn ?hd ?_); (case hd => walk_at "df"); intro _)
      | ((with_reducible refine' dNotIn ?hd ?_); (case hd => walk_at "df"); intro _)
      | ((with_reducible refine byLe ?_); intro _))
    | ((with_reducible show wpAny _ _ (call _ _ _) _ _ _); first
      | ((with_reducible refine byStarts ?_); intro _)
      | ((with_reducible refine' byLower ?hz ?_); (case hz => walk_at "sz"); intro _ _)
      | ((with_reducible refine ordC ?_); intro _ _)
      | ((with_reducible refine byOfBy ?_); intro _)
      | ((with_reducible refine strI (by omega) ?_); intro _ _)
      | ((with_reducible refine' dLen ?hd ?hz ?_); (case hd => walk_at "df"); (case hz => walk_at "sz"); intro _ _)
      | ((with_reducible refine' lenB ?hz ?_); (case hz => walk_at "sz"); intro _ _))
    | ((with_reducible show wpAny _ _ (getMethod _ _ _) _ _ _); first
      | (with_reducible refine byMeth X.slot_bytes_lower X.type_bytes_lower ?_)
      | (with_reducible refine byMeth X.slot_bytes_find X.type_bytes_find ?_)
      | (with_reducible refine byMeth X.slot_bytes_split X.type_bytes_split ?_)
      | (with_reducible refine byMeth X.slot_bytes_join X.type_bytes_join ?_)
      | (with_reducible refine byMeth X.slot_bytes_startswith X.type_bytes_startswith ?_)
      | ((with_reducible refine' aM (by assumption) (by assumption) (by assumption) ?hf ?hv ?_); (case hf => walk_at "m"); (case hv => exact rfl))
      | ((with_reducible refine' lMeth ?hl PySem.F.slot_list_append PySem.F.type_list_append ?_); (case hl => walk_at "at"))
      | ((with_reducible refine' lMeth ?hl PySem.F.slot_list_extend PySem.F.type_list_extend ?_); (case hl => walk_at "at"))
      | ((with_reducible refine' lMeth ?hl PySem.F.slot_list_pop PySem.F.type_list_pop ?_); (case hl => walk_at "at")))
    | ((with_reducible show wpAny _ _ (getAttr _ _ _) _ _ _); first
      | ((with_reducible refine' aF (by assumption) (by assumption) (by assumption) ?hf ?hv ?hh ?_); (case hf => kernel_rfl!); (case hv => exact rfl); (case hh => exact rfl); intro _))
    | ((with_reducible show wpAny _ _ (binaryOp _ _ _) _ _ _); first
      | ((with_reducible refine addI ?_); intro _ _)
      | ((with_reducible refine andI ?_); intro _ _)
      | ((with_reducible refine modI (by decide) ?_); intro _ _)
      | ((with_reducible refine subI ?_); intro _ _)
      | ((with_reducible refine' addBy ?hz ?_); (case hz => walk_at "sz"); intro _ _))
    | (with_reducible refine testsNil ?_)
    | (with_reducible refine wpAny_bindName ?_)
    | (with_reducible refine wpAny_assign_Name ?_)
    | ((with_reducible refine sL (by assumption) ?_); intro _ _ _)
    | ((with_reducible refine' dItem ?hd ?hv ?_); (case hd => walk_at "df"); (case hv => assumption); intro _)
    | (with_reducible refine partN ?_)
    | (with_reducible refine partS ?_)
    | (with_reducible refine wpAny_truthy_bool ?_)
    | (with_reducible refine aOrd ?_)
    | (with_reducible refine aOrd0 ?_)
    | ((with_reducible refine' lNew (by assumption) ?hz ?_); (case hz => walk_at "sz"); intro _ _ _ _)
    | ((with_reducible refine' tNew (by assumption) ?hz ?_); (case hz => walk_at "sz"); intro _ _ _ _)
    | (with_reducible refine ifT ?_)
    | (with_reducible refine ifF ?_)
    | ((with_reducible refine zNx zA ?_); clear zA zB; (try clear zZ))
    | ((with_reducible refine zOut zB (by kernel_rfl!) ?_); clear zA zB; (try clear zZ))
    | (with_reducible refine zEnd (by assumption) ?_)
    | (with_reducible refine zRet (by assumption) ?_)
    | (with_reducible refine kin (by assumption) (by assumption) ?_)
    | fail "no"
  trivial
-- F24
section
section
variable {prog : Program} {w : World} {mg mb : Str → Option Value} {p : Program} {loose : List Str} {A : Around} {E : Value → Shared → Prop}
  {g h : Heap} {mu : List (Addr × Obj)} {gs : Array GenState} {dr : Drawn} {tk : Nat} {os : OsState}
theorem walksOwnF24_1 : True := by
  k_with "fr" => first | ((repeat (refine updN (by decide) ?_)); first | exact rfl | assumption) | fail "no"
  trivial
/-- between the turns of the while -/
inductive DiffJ (n1 n2 : List (BY × BY)) (S F W cl : Addr) (k : Nat) (g₁ : Heap) (m₁ : Str → Option Value) (mu₁ : List (Addr × Obj)) : Prop
  | mk (vs : List Value) (cs : List Ch) (ws : List Value) (os : List W3) (nlF nlW : Nat) (oC : Obj) (_ : mu₁ = [(F, lst vs.toArray nlF), (W, lst ws.toArray nlW), (cl, oC)]) (_ : k = sumD os) (_ : DW n1 n2 g₁ vs cs ws os 6) (_ : ∃ c0, oC.data = .cell c0)
    (_ : m₁ "store" = some (.ref S)) (_ : m₁ "found" = some (.ref F)) (_ : m₁ "waiting" = some (.ref W)) (_ : m₁ "deep" = some (.bool true)) : DiffJ n1 n2 S F W cl k g₁ m₁ mu₁
/-- between the turns of the for within -/
inductive DiffJJ (n1 n2 : List (BY × BY)) (S F W cl D2 : Addr) (oC : Obj) (here : BY) (t1 : Tok) (B D : Nat) (g₁ : Heap) (m₁ : Str → Option Value) (mu₁ : List (Addr × Obj)) : Prop
  | mk (vs : List Value) (cs : List Ch) (ws : List Value) (os : List W3) (nlF nlW : Nat) (_ : mu₁ = [(F, lst vs.toArray nlF), (W, lst ws.toArray nlW), (cl, oC)]) (_ : DW n1 n2 g₁ vs cs ws os B) (_ : sumD os ≤ D)
    (_ : m₁ "store" = some (.ref S)) (_ : m₁ "found" = some (.ref F)) (_ : m₁ "waiting" = some (.ref W)) (_ : m₁ "deep" = some (.bool true)) (_ : m₁ "here" = some (.bytes here.toArray t1)) (_ : m₁ "news" = some (.ref D2)) : DiffJJ n1 n2 S F W cl D2 oC here t1 B D g₁ m₁ mu₁
set_option maxHeartbeats 1000000 in
theorem diff_spec {S : Addr} {items : List Thing} {n1 n2 : List (BY × BY)} {o1 o2 : BY} {t u : Tok} {Q : Value → Shared → Prop} {n : Nat} (C : Cx w mg mb p loose g) (k : Sub g h) (rm : Rm A (n + 8)) (R : StR prog w g S items) (B1 : Built items n1 [] o1) (B2 : Built items n2 [] o2)
    (ret : ∀ D g' h' tk' vs nl cs, Step [] g h g' h' → Own g' h' [] → g'.get? D = some (lst vs.toArray nl) → All2 (IsCh g') vs cs → (∀ c ∈ cs, ChOk n1 n2 c) → cs.length ≤ 6 → Q (.ref D) ⟨h', gs, dr, tk', os⟩) :
    wpAny (model prog w) A (call (.ref 256) [.ref S, .bytes o1.toArray t, .bytes o2.toArray u]) Q E ⟨h, gs, dr, tk, os⟩ := by
  have R' := R
  obtain ⟨⟨kn, kd, kvs, ⟨H, t0, I1, I2⟩, D, K⟩, hzz⟩ := R'
  refine wpAny_call ?_
  refine enterCells (f := 256) (fd := fdOf w 256) (body := bodyOf w 256) (binds := [("store", .ref S), ("one", .bytes o1.toArray t), ("other", .bytes o2.toArray u), ("prefix", .bytes #[] 530), ("deep", .bool true)]) C (Own.nil k) rm (oc := .type "function") (od := none) (osl := #[]) ?a ?b ?c ?d ?dc ?e ?nd ?walk ?f ?g ?i
  case walk =>
    intro E h₁ tk₁ obj rm hob st Z0 z0
    have hcell : (obj (h.objs.size + 1)).data = .cell none := hob "olds" _ (by kernel_rfl)
    have st : St g h [] g h.objs.size _ [(h.objs.size + 1, obj (h.objs.size + 1))] h₁ := st
    generalize hm : bindL (callEnvC (fdOf w 256) h.objs.size 256).kindOf [("store", .ref S), ("one", .bytes o1.toArray t), ("other", .bytes o2.toArray u), ("prefix", .bytes #[] 530), ("deep", .bool true)] (fun _ => none) = m at st
    have m1 : m "store" = some (.ref S) := by rw [← hm]; kernel_rfl
    have m2 : m "one" = some (.bytes o1.toArray t) := by rw [← hm]; kernel_rfl
    have m3 : m "other" = some (.bytes o2.toArray u) := by rw [← hm]; kernel_rfl
    have m4 : m "prefix" = some (.bytes #[] 530) := by rw [← hm]; kernel_rfl
    have m5 : m "deep" = some (.bool true) := by rw [← hm]; kernel_rfl
    clear hm
    generalize hcl : h.objs.size + 1 = cl at st hcell
    walk_at "sx"
    walk_at "go"
    rename_i F _ hF _ _ _ _ tu _ htu _ W _ hW _ _ _ st
    refine (st.front 1 rfl).freezeC htu fun g0 sg0 hg0 st => ?_
    have st := st.perm (mu' := [(F, lst ([] : List Value).toArray 0), (W, lst ([.ref tu] : List Value).toArray 0), (cl, obj cl)]) (.swap ..)
    refine whileW st (DiffJ n1 n2 S F W cl) 4
      ⟨[], [], [.ref tu], [(some o1, some o2, [])], 0, 0, _, rfl, rfl, ⟨.nil, .cons ⟨tu, 0, _, _, _, rfl, hg0, .some _ _, .some _ _⟩ .nil, by simp, fun x hx => by rw [List.mem_singleton.mp hx]; exact .start B1 B2, Nat.le_refl _⟩, ⟨none, hcell⟩, by walk_at "fr", by walk_at "fr", by walk_at "fr", by walk_at "fr"⟩ ?turn
    case turn =>
      intro kk g₁ h₁ m₁ mu₁ tk₁ E zj sg st Z zn zb zr
      obtain ⟨vs, cs, ws, os, nlF, nlW, oC, rfl, rfl, V, ⟨c0, hc0⟩, m1, m2, m3, m4⟩ := zj
      have sgg := sg0.trans sg
      have C := C.sub sgg
      have R := R.sub sgg
      have hls := len_sumF os
      have wl := V.wa.length
      have vl := V.va.length
      have vz := V.z
      walk_at "go"
      refine truL (st.at 1 rfl) (by omega) fun _ => ?_
      rcases List.eq_nil_or_concat os with rfl | ⟨os', ⟨l, r, here⟩, rfl⟩
      · have : ws = [] := by have := V.wa; cases this; rfl
        subst this
        first | ((with_reducible refine ifN ?hc ?_); (case hc => exact (by simp))) | rw [if_neg (by simp)]
        dsimp only
        walk_at "sx"
        refine wpAny_Return_some ?_
        refine wpAny_Call_Name_kw ?_
        walk_at "go"
        refine callWith_kw ?_
        walk_at "go"
        refine kws_cons ?_
        walk_at "go"
        refine kws_nil ?_
        let dC : Ch := ⟨"", none, none, none, none⟩
        refine sortKeyT (kb := fun i => (pathOf (cs.getD i dC)).getD []) (kz := fun i => if (cs.getD i dC).word = "D" then 0 else 1) (l := F) st (st.at 0 rfl) hF (st.ml _ (.head _)).1 (by omega) ?_ ?_
        · intro i v g₂ h₂ tk₂ hv sg2 k2
          obtain ⟨c, hc, Ic⟩ := V.va.get' hv
          have e1 : cs.getD i dC = c := by simp [hc]
          obtain ⟨f, hf, nm, hn, hp, _⟩ := (V.co c (List.mem_of_getElem? hc)).ex
          refine order_spec (C.sub sg2) k2 (rm.mono (show n + 5 ≤ n + 7 by omega)).in1.in1 (Ic.sub sg2) hp fun x g' h' tk' t1 t2 sp ow hx => ?_
          refine ⟨g', h', tk', x, t1, t2, rfl, sp, ow, rfl, ?_⟩
          show g'.get? x = some (tup #[.bytes ((pathOf (cs.getD i dC)).getD []).toArray t1, .int (if (cs.getD i dC).word = "D" then 0 else 1) t2] 0)
          rw [e1, hp]
          exact hx
        · intro D' g₃ h' c tk' pp sg3 hD' hpp st
          refine st.freezeC hD' fun g₄ sg4 hgD st => ?_
          have pe := pick_perm (l := cs) (d := dC) (p := pp) (by rw [← vl]; exact hpp)
          walk_at "go"
          refine ret D' g₄ _ _ _ _ _ st.step (st.sub (List.nil_sublist _)).own hgD (All2.pick (d := dC) (V.va.mono fun _ _ q => q.sub (sg3.trans sg4)) fun i hi => List.mem_range.mp (hpp.mem_iff.mp hi)) (fun c hc => V.co c (pe.mem_iff.mp hc)) ?_
          rw [pe.length_eq]; omega
      · rw [List.concat_eq_append] at *
        obtain ⟨ws', v, rfl, wa', a, na, v1, v2, t1, rfl, ha, Ol, Or⟩ := V.wa.snocInv
        first | ((with_reducible refine ifP ?hc ?_); (case hc => exact (by simp))) | rw [if_pos (by simp)]
        have wz : ws'.length ≤ 6 := by
          rw [List.length_append, List.length_append] at wl
          rw [List.length_append] at hls
          omega
        have hw := V.wo (l, r, here) (by simp)
        have hF : here ∈ FsL := hw.F
        rw [sumF_app] at vz
        have sF1 : sumF [(l, r, here)] = filesB here := by simp [sumF]
        have sD1 : sumD [(l, r, here)] = dirsB here := by simp [sumD]
        have hd1 := dirsB_pos (f := here)
        walk_at "sx"
        refine xAssignTup ?_
        walk_at "go"
        refine lPop st 1 rfl (by omega) fun h' n' st => ?_
        refine aTup st rm.hh (st.own.keep _ _ ha) rfl rfl fun h' st => ?_
        walk_at "go"
        refine eqOB Ol Or ?_
        walk_at "go"
        by_cases ne : l = r
        · first | ((with_reducible refine ifP ?hc ?_); (case hc => exact (by simpa using ne))) | rw [if_pos (by simpa using ne)]
          walk_at "go"
          obtain st : St _ _ _ _ _ _ [(F, lst vs.toArray nlF), (W, lst ws'.toArray n'), (cl, oC)] _ := by assumption
          refine zn _ (sumD os') g₁ _ _ _ _ rfl ?_ Sub.rfl st ⟨vs, cs, ws', os', nlF, n', oC, rfl, rfl, ⟨V.va, wa', V.co, fun x hx => V.wo x (List.mem_append_left _ hx), by omega⟩, ⟨c0, hc0⟩, by walk_at "fr", by walk_at "fr", by walk_at "fr", by walk_at "fr"⟩
          rw [sumD_app]
          omega
        first | ((with_reducible refine ifN ?hc ?_); (case hc => exact (by simpa using ne))) | rw [if_neg (by simpa using ne)]
        walk_at "go"
        obtain st : St _ _ _ _ _ _ [(F, lst vs.toArray nlF), (W, lst ws'.toArray n'), (cl, oC)] _ := by assumption
        obtain ⟨es1, S1⟩ := B1.side here
        obtain ⟨es2, S2⟩ := B2.side here
        have hT1 : TreeO items l es1 := by have := S1.T; rw [show l = n1.lookup here from hw.l]; exact this
        have hT2 : TreeO items r es2 := by have := S2.T; rw [show r = n2.lookup here from hw.r]; exact this
        refine xAssignTup ?_
        refine Tuple_ ?_
        refine xSplCons ?_
        walk_at "go"
        refine entries_spec (o := l) (n := n + 1) C (by assumption : St _ _ _ _ _ _ _ _).own.keep (rm.mono (by omega)) R Ol hT1 S1.nd S1.z fun D1 g₂ h' tk' kv1 sp ow DF1 M1 => ?_
        obtain st : St _ _ _ _ _ _ [(F, lst vs.toArray nlF), (W, lst ws'.toArray n'), (cl, oC)] _ := by assumption
        have st := st.call (mu₁ := []) sp ow rfl
        have C := C.sub sp.sub
        have R := R.sub sp.sub
        refine xSplCons ?_
        walk_at "go"
        refine entries_spec (o := r) (n := n + 1) C (by assumption : St _ _ _ _ _ _ _ _).own.keep (rm.mono (by omega)) R Or hT2 S2.nd S2.z fun D2 g₃ h' tk' kv2 sp3 ow DF2 M2 => ?_
        obtain st : St _ _ _ _ _ _ _ _ := by assumption
        have st := st.call (mu₁ := []) sp3 ow rfl
        have C := C.sub sp3.sub
        have R := R.sub sp3.sub
        have DF1 := DF1.sub sp3.sub
        have M1 := M1.sub sp3.sub
        walk_at "go"
        rename_i tu2 _ htu2 st
        refine aTup st rm.hh (st.at 0 rfl) rfl rfl fun h' st => ?_
        have st := st.sub (List.sublist_cons_self _ _)
        refine aOrd ?_
        refine wpAny_assign_Name ?_
        refine sC st 2 rfl hc0 (fun h' oC' hc1 st => ?_) (cellAt (by kernel_rfl) hcl)
        have st := st.perm (mu' := [(F, lst vs.toArray nlF), (W, lst ws'.toArray n'), (cl, oC')]) (.refl _)
        walk_at "go"
        obtain st : St _ _ _ _ _ _ [(F, lst vs.toArray nlF), (W, lst ws'.toArray n'), (cl, oC')] _ := by assumption
        have l1 : kv1.length ≤ 4 := by rw [M1.length]; exact S1.z
        have l2 : kv2.length ≤ 4 := by rw [M2.length]; exact S2.z
        refine evComp (cl := []) ?clos1 ?kind1 ?names1 ?fs1 ?main1
        case main1 =>
          refine nC (st.at 2 rfl) hc1 ?_ (cellAt (by kernel_rfl) hcl)
          refine compI (cl := []) none (Iter.dict rm.hh DF1.1 DF1.2) ?hn ?hcell ?hkind ?hL ?huse st (fun i g' ys mu' => g' = g₃ ∧ mu' = [(F, lst vs.toArray nlF), (W, lst ws'.toArray n'), (cl, oC')] ∧ BysAre ys ((es1.map En.name).take i)) ⟨rfl, rfl, .nil⟩ ?turn1 ?done1 ?ht1
          case ht1 => intro I v; rfl
          case hn => unfold sizeLine; omega
          case turn1 =>
            intro h₀ S₀ C' D' I i v g₄ h₄ m₄ mu₄ tk₄ oI₀ oI ys na E hi hp zj sg4 hl fr st₀ hS st₄ Z Zn zn zs
            obtain ⟨rfl, rfl, hys⟩ := zj
            obtain ⟨ky, x, tx, hk, rfl⟩ := hp
            walk_at "go"
            refine zn _ g₄ _ _ _ _ Sub.rfl ‹_› ⟨rfl, rfl, ?_⟩
            have : (es1.map En.name)[i]? = some ky := by rw [← M1.keys, List.getElem?_map, hk]; rfl
            rw [List.take_add_one, this]
            exact hys.snoc
          case done1 =>
            rintro L1 g₄ h₄ mu₄ tk₄ ys1 na1 ⟨rfl, rfl, hys1⟩ sg4 hl hL1 st
            rw [List.take_of_length_le (by rw [M1.length]; simp)] at hys1
            refine st.freezeC hL1 fun g₅ sg5 hgL1 st => ?_
            have C := C.sub sg5
            have R := R.sub sg5
            have DF1 := DF1.sub sg5
            have DF2 := DF2.sub sg5
            refine evComp (cl := [("olds", cl)]) ?clos2 ?kind2 ?names2 ?fs2 ?main2
            case clos2 => rw [← hcl]; kernel_rfl
            case main2 =>
              walk_at "go"
              refine compI (cl := [("olds", cl)]) none (Iter.dict rm.hh DF2.1 DF2.2) ?hn2 ?hcell2 ?hkind2 ?hL2 ?huse2 st (fun i g' ys mu' => g' = g₅ ∧ mu' = [(F, lst vs.toArray nlF), (W, lst ws'.toArray n'), (cl, oC')] ∧ BysAre ys (((es2.map En.name).take i).filter fun x => !decide (x ∈ es1.map En.name))) ⟨rfl, rfl, .nil⟩ ?turn2 ?done2 ?ht2
              case ht2 => intro I v; rfl
              case hn2 => unfold sizeLine; omega
              case turn2 =>
                intro h₀ S₀ C' D' I i v g₆ h₆ m₆ mu₆ tk₆ oI₀ oI ys na E hi hp zj sg6 hl fr st₀ hS st₆ Z Zn zn zs
                obtain ⟨rfl, rfl, hys⟩ := zj
                obtain ⟨ky, x, tx, hk, rfl⟩ := hp
                walk_at "go"
                refine testsOne ?_
                walk_at "go"
                obtain st : St _ _ _ _ _ _ _ _ := by assumption
                refine nC (st.at 4 rfl) hc1 ?_
                walk_at "go"
                have en : (es2.map En.name)[i]? = some ky := by rw [← M2.keys, List.getElem?_map, hk]; rfl
                have ef : ((es2.map En.name).take (i + 1)).filter (fun x => !decide (x ∈ es1.map En.name)) = ((es2.map En.name).take i).filter (fun x => !decide (x ∈ es1.map En.name)) ++ (some ky).toList.filter (fun x => !decide (x ∈ es1.map En.name)) := by rw [List.take_add_one, en, List.filter_append]
                rw [M1.isSome]
                by_cases q : ky ∈ es1.map En.name
                · first | ((with_reducible refine ifN ?hc ?_); (case hc => exact (by simp only [q, decide_true]; decide))) | rw [if_neg (by simp only [q, decide_true]; decide)]
                  refine zs g₆ _ _ _ _ Sub.rfl ‹_› ⟨rfl, rfl, ?_⟩
                  have : List.filter (fun x => !decide (x ∈ es1.map En.name)) (some ky).toList = [] := by simp only [Option.toList, List.filter_cons, q, decide_true]; rfl
                  rw [ef, this, List.append_nil]
                  exact hys
                · first | ((with_reducible refine ifP ?hc ?_); (case hc => exact (by simp only [q, decide_false]; decide))) | rw [if_pos (by simp only [q, decide_false]; decide)]
                  walk_at "go"
                  refine zn _ g₆ _ _ _ _ Sub.rfl ‹_› ⟨rfl, rfl, ?_⟩
                  have : List.filter (fun x => !decide (x ∈ es1.map En.name)) (some ky).toList = [ky] := by simp only [Option.toList, List.filter_cons, q, decide_false]; rfl
                  rw [ef, this]
                  exact hys.snoc
              case done2 =>
                rintro L2 g₆ h₆ mu₆ tk₆ ys2 na2 ⟨rfl, rfl, hys2⟩ sg6 hl2 hL2 st
                rw [List.take_of_length_le (by rw [M2.length]; simp)] at hys2
                refine lAdd st (st.own.keep _ _ hgL1) (st.at 0 rfl) (by omega) fun L3 h' hL3 st => ?_
                walk_at "go"
                have hab := hys1.append hys2
                refine sortBys st (st.at 0 rfl) hab (by rw [List.length_append]; omega) fun L4 h' c4 ys4 ns hL4 hys4 pns st => ?_
                have st := st.perm (mu' := (L4, lst ys4.toArray c4) :: [(F, lst vs.toArray nlF), (W, lst ws'.toArray n'), (cl, oC')] ++ [(L3, lst (ys1 ++ ys2).toArray 0), (L2, lst ys2.toArray na2)]) (List.Perm.cons _ (List.perm_append_comm (l₁ := [(L3, lst (ys1 ++ ys2).toArray 0), (L2, lst ys2.toArray na2)])))
                have st := st.sub (mu' := (L4, lst ys4.toArray c4) :: [(F, lst vs.toArray nlF), (W, lst ws'.toArray n'), (cl, oC')]) (List.sublist_append_left _ _)
                refine st.freezeC hL4 fun g₇ sg7 hgL4 st => ?_
                have C := C.sub sg7
                have R := R.sub sg7
                have DF1 := DF1.sub sg7
                have DF2 := DF2.sub sg7
                have M1 := M1.sub (sg5.trans sg7)
                have M2 := M2.sub (sg5.trans sg7)
                walk_at "go"
                obtain st : St _ _ _ _ _ _ [(F, lst vs.toArray nlF), (W, lst ws'.toArray n'), (cl, oC')] _ := by assumption
                have nn1 : (es1.map En.name ++ (es2.map En.name).filter fun x => !decide (x ∈ es1.map En.name)).Nodup := by
                  rw [List.nodup_append]
                  refine ⟨S1.nd, S2.nd.sublist List.filter_sublist, fun a ha b hb e => ?_⟩
                  subst e
                  have := (List.mem_filter.mp hb).2
                  rw [decide_eq_true ha] at this
                  cases this
                have nns : ns.Nodup := pns.nodup_iff.mpr nn1
                have nin : ∀ x ∈ ns, x ∈ fileN here ++ dirN here := fun x hx => by
                  rcases List.mem_append.mp (pns.mem_iff.mp hx) with q | q
                  · exact S1.name x q
                  · exact S2.name x (List.mem_filter.mp q).1
                have fs := fSum hF nns nin
                have hnsl : ys4.length = ns.length := hys4.length
                have hF2 : filesB here ≤ 6 := by unfold filesB; split <;> (try split) <;> (try split) <;> omega
                have hpre : ∀ i, ((ns.take i).map (wf here)).sum ≤ (ns.map (wf here)).sum ∧ ((ns.take i).map (wd here)).sum ≤ (ns.map (wd here)).sum := fun i => by
                  have e := List.take_append_drop i ns
                  constructor <;> (conv => rhs; rw [← e]) <;> rw [List.map_append, List.sum_append] <;> omega
                refine forI (Iter.list rm.hh (isl hgL4)) st (fun i g' m' mu' => DiffJJ n1 n2 S F W cl D2 oC' here t1 (cs.length + sumF os' + ((ns.take i).map (wf here)).sum) (sumD os' + ((ns.take i).map (wd here)).sum) g' m' mu')
                  ⟨vs, cs, ws', os', nlF, n', rfl, ⟨V.va.mono fun _ _ q => q.sub (((sp.sub.trans sp3.sub).trans sg5).trans sg7), wa'.mono fun _ _ q => q.sub (((sp.sub.trans sp3.sub).trans sg5).trans sg7), V.co, fun x hx => V.wo x (List.mem_append_left _ hx), by simp⟩, by simp, by walk_at "fr", by walk_at "fr", by walk_at "fr", by walk_at "fr", by walk_at "fr", by walk_at "fr"⟩ ?turn3 ?done3 ?ht3
                case ht3 => intro I v; rfl
                case turn3 =>
                  intro i v I g₈ h₈ m₈ mu₈ tk₈ oI E hi hp zj sg8 st Z zn zb zr
                  obtain ⟨vs', cs', ws2, os2, nlF', nlW', rfl, V2, sD2, m1, m2, m3, m4, m5, m6⟩ := zj
                  have hi' : i < ns.length := by simp at hi; omega
                  obtain ⟨tn, hvn⟩ := hys4.get (List.getElem?_eq_getElem hi')
                  have hp : ys4[i]? = some v := by simpa using hp
                  rw [hp] at hvn
                  cases hvn
                  have hni := nin _ (List.getElem_mem hi')
                  have htk : ns.take (i + 1) = ns.take i ++ [ns[i]] := List.take_succ_eq_append_getElem hi'
                  have hp1 := hpre i
                  have v2l := V2.va.length
                  have w2l := V2.wa.length
                  have v2z := V2.z
                  have lw2 := len_sumF os2
                  refine wpAny_assign_Name ?_
                  refine sL st fun h' tk' st => ?_
                  refine diff_name (n := n) (by kernel_rfl!) hcl (C.sub sg8) rm B1 B2 S1 S2 hw ne (DF1.sub sg8) (M1.sub sg8) (DF2.sub sg8) (M2.sub sg8) hni hc1 st V2 sD2 (by omega) (by omega) (by walk_at "fr") (by walk_at "fr") (by walk_at "fr") (by walk_at "fr") (by walk_at "fr") (by walk_at "fr") (by walk_at "fr") fun g9 h9 m9 vs9 cs9 ws9 os9 nlF9 nlW9 tk9 sg9 st9 V9 sD9 e1 e2 e3 e4 e5 e6 => ?_
                  have e7 : ((ns.take (i + 1)).map (wf here)).sum = ((ns.take i).map (wf here)).sum + wf here ns[i] := by rw [htk, List.map_append, List.sum_append]; simp
                  have e8 : ((ns.take (i + 1)).map (wd here)).sum = ((ns.take i).map (wd here)).sum + wd here ns[i] := by rw [htk, List.map_append, List.sum_append]; simp
                  have V9' : DW n1 n2 g9 vs9 cs9 ws9 os9 (cs.length + sumF os' + ((ns.take (i + 1)).map (wf here)).sum) := by rw [e7, ← Nat.add_assoc]; exact V9
                  have sD9' : sumD os9 ≤ sumD os' + ((ns.take (i + 1)).map (wd here)).sum := by rw [e8, ← Nat.add_assoc]; exact sD9
                  have zz := fun f (hf : isNx f = true) h tk (st : St _ _ _ _ _ _ _ h) => zn f g9 h _ _ tk hf sg9 st ⟨vs9, cs9, ws9, os9, nlF9, nlW9, rfl, V9', sD9', e1, e2, e3, e4, e5, e6⟩
                  exact ⟨zz _ rfl _ _ st9, zz _ rfl _ _ st9⟩
                case done3 =>
                  rintro g₈ h₈ m₈ mu₈ tk₈ ⟨vs', cs', ws2, os2, nlF', nlW', rfl, V2, sD2, m1, m2, m3, m4, m5, m6⟩ sg8 st
                  walk_at "go"
                  have hp1 := hpre ys4.toArray.size
                  refine zn _ (sumD os2) g₈ _ _ _ _ rfl ?_ ?_ st ⟨vs', cs', ws2, os2, nlF', nlW', oC', rfl, rfl, ⟨V2.va, V2.wa, V2.co, V2.wo, ?_⟩, ⟨_, hc1⟩, m1, m2, m3, m4⟩
                  · rw [sumD_app]; omega
                  · exact (((sp.sub.trans sp3.sub).trans sg5).trans sg7).trans sg8
                  · have := V2.z; omega
              all_goals kernel_rfl!
            case names2 => decide
            case fs2 => intro x; kernel_rfl!
            all_goals kernel_rfl!
          all_goals kernel_rfl!
        case names1 => decide
        case fs1 => intro x; kernel_rfl!
        all_goals kernel_rfl!
  case d =>
    refine' BindsTo.of_defaults (T := 251) (o := tup #[.bytes #[] 530, .bool true] 0) (items := #[.bytes #[] 530, .bool true]) (n := 0) ?h1 ?h2 rfl ?h3 ?h4
    case h1 => kernel_rfl!
    case h2 => exact C.X.keeps k _ _ (by kernel_rfl!)
    case h3 => rfl
    case h4 => kernel_rfl!
  all_goals walk_at "kr"
end
end
theorem walksAgain_2 : True := by
  k_with_none
  k_with "g" => first
    | with_reducible exact g_ADDED
    | with_reducible exact g_BLOB
    | with_reducible exact g_CountingHasher
    | with_reducible exact g_DIR
    | with_reducible exact g_Entry
    | with_reducible exact g_FILE
    | with_reducible exact g_FOLDER
    | with_reducible exact g_GONE
    | with_reducible exact g_LINK
    | with_reducible exact g_MODULE
    | with_reducible exact g_MemoryStore
    | with_reducible exact g_OBJECT_MODES
    | with_reducible exact g_OTHER
    | with_reducible exact g_OTHER_KIND
    | with_reducible exact g_PLAIN
    | with_reducible exact g_PathChange
    | with_reducible exact g_SUB
    | with_reducible exact g_TREE
    | with_reducible exact g_Tree
    | with_reducible exact g__law_deck
    | with_reducible exact g__law_draw
    | with_reducible exact g__law_row
    | with_reducible exact g__law_touches
    | with_reducible exact g__law_tree
    | with_reducible exact b_bytearray
    | with_reducible exact b_bytes
    | with_reducible exact b_int
    | with_reducible exact b_len
    | with_reducible exact b_ord
    | with_reducible exact b_range
    | with_reducible exact b_sorted
    | with_reducible exact b_str
    | with_reducible exact g_big_endian
    | with_reducible exact g_check_tree
    | with_reducible exact g_diff_trees
    | with_reducible exact g_object_are_all
    | with_reducible exact g_object_by_eights
    | with_reducible exact g_object_has_sign
    | with_reducible exact g_object_name_fault
    | with_reducible exact g_object_octets
    | with_reducible exact g_octets_of
    | with_reducible exact g_tree_faults
    | with_reducible exact g_treediff_added
    | with_reducible exact g_treediff_beside
    | with_reducible exact g_treediff_entries
    | with_reducible exact g_treediff_folders
    | with_reducible exact g_treediff_gone
    | with_reducible exact g_treediff_is_alike
    | with_reducible exact g_treediff_joined
    | with_reducible exact g_treediff_kind
    | with_reducible exact g_treediff_order
    | with_reducible exact g_treediff_within
    | fail "no"
  k_with "m" => first
    | with_reducible exact m_108_digest
    | with_reducible exact m_314_sort_key
    | with_reducible exact m_314_octets
    | with_reducible exact m_363_octets
    | with_reducible exact m_525_keep
    | with_reducible exact m_525_write
    | with_reducible exact m_525_write_tree
    | with_reducible exact m_525_row_of
    | with_reducible exact m_525_of_kind
    | with_reducible exact m_525_tree
    | fail "no"
  k_with "sz" => first | (with_reducible assumption) | omega | (simp only [List.length_append, List.length_cons, List.length_nil, List.size_toArray]; omega) | (simp only [List.length_append, List.length_cons, List.length_nil, List.size_toArray] at *; omega) | fail "no"
  k_with "at" => first | (with_reducible exact St.at (by assumption) 0 rfl) | (with_reducible exact St.at (by assumption) 1 rfl) | (with_reducible exact St.at (by assumption) 2 rfl) | (with_reducible exact St.at (by assumption) 3 rfl) | (with_reducible exact St.at (by assumption) 4 rfl) | (with_reducible exact St.at (by assumption) 5 rfl) | (with_reducible exact St.at (by assumption) 6 rfl) | (exact (St.own (by assumption)).keep _ _ (by assumption)) | fail "no"
  k_with "df" => first | (with_reducible exact St.dict (by assumption) 0 rfl (by assumption)) | (with_reducible exact St.dict (by assumption) 1 rfl (by assumption)) | (with_reducible exact St.dict (by assumption) 2 rfl (by assumption)) | (with_reducible exact St.dict (by assumption) 3 rfl (by assumption)) | (with_reducible exact St.dict (by assumption) 4 rfl (by assumption)) | (with_reducible exact St.dict (by assumption) 5 rfl (by assumption)) | (with_reducible exact DF.sub (by assumption) (St.own (by assumption)).keep) | fail "no"
  k_with "fr" => first | exact rfl | assumption | (refine updN (by decide) ?_; first | exact rfl | assumption | (refine updN (by decide) ?_; first | exact rfl | assumption | (refine updN (by decide) ?_; first | exact rfl | assumption | (refine updN (by decide) ?_; first | exact rfl | assumption)))) | fail "no"
  k_with "sx" => first | ((try ((with_reducible refine zNx zA ?_); clear zA zB; (try clear zZ))); refine xExecsZ ?_; intro zZ zA zB) | fail "no"
  k_with "go" => repeat' (walk_at "go1")
  k_with "kr" => first | kernel_rfl! | (refine BindsTo.of_eq ?_; kernel_rfl!) | fail "no"
  k_with "go1" => first
    | ((with_reducible show wpAny _ _ (eval _ _) _ _ _); first
      | ((with_reducible show wpAny _ _ (eval (Expr.Name _ _) _) _ _ _); first | ((with_reducible refine' nL (by assumption) ?hv ?_); (case hv => walk_at "fr")) | ((with_reducible refine' nG (by assumption) (by assumption) ?hg ?_); (case hg => walk_at "g")) | ((with_reducible refine' nB (by assumption) (by assumption) ?hb ?_); (case hb => walk_at "g")))
      | (with_reducible refine xAttrN ?_)
      | (with_reducible refine xAttr ?_)
      | ((with_reducible show wpAny _ _ (eval (Expr.Constant ..) _) _ _ _); first
        | ((with_reducible refine conBy ?_); intro _ _)
        | ((with_reducible refine conInt ?_); intro _ _)
        | ((with_reducible refine conStr ?_); intro _ _)
        | (with_reducible refine wpAny_Constant_none ?_)
        | (with_reducible refine wpAny_Constant_bool ?_))
      | (with_reducible refine xMethod ?_)
      | (with_reducible refine xCall ?_)
      | (with_reducible refine xCut ?_)
      | (with_reducible refine Subscript_ ?_)
      | (with_reducible refine xCompare ?_)
      | (with_reducible refine wpAny_BinOp ?_)
      | (with_reducible refine Tuple_ ?_)
      | (with_reducible refine List_ ?_)
      | (with_reducible refine wpAny_IfExp ?_)
      | ((with_reducible refine' dNew (by assumption) (by assumption) ?_); intro _ _ _ _ _ _)
      | (with_reducible refine BoolOp_and ?_)
      | (with_reducible refine BoolOp_or ?_)
      | (with_reducible refine BoolOp_one ?_))
    | ((with_reducible show wpAny _ _ (callWith _ _ _ _ _) _ _ _); first
      | (with_reducible refine cBn ?_)
      | (with_reducible refine cB1 ?_)
      | (with_reducible refine cB01 ?_)
      | (with_reducible refine cT ?_)
      | ((with_reducible refine cGn ?hk ?_); (case hk => kernel_rfl!))
      | ((with_reducible refine cG1 ?hk ?_); (case hk => kernel_rfl!))
      | ((with_reducible refine cG01 (by assumption) (by assumption) ?hk ?_); (case hk => kernel_rfl!)))
    | ((with_reducible show wpAny _ _ (spliced _) _ _ _); first
      | (with_reducible refine xSplCons ?_)
      | (with_reducible refine xSplNil ?_))
    | ((with_reducible refine xExecsZ ?_); intro zZ zA zB)
    | (with_reducible refine wpAny_execs_nil ?_)
    | ((with_reducible show wpAny _ _ (exec _ _) _ _ _); first
      | (with_reducible refine xAssign ?_)
      | (with_reducible refine xAssignSub ?_)
      | (with_reducible refine xAssignAttr ?_)
      | (with_reducible refine xExpr ?_)
      | (with_reducible refine xIf ?_)
      | (with_reducible refine wpAny_Return_some ?_)
      | (with_reducible refine xFor ?_)
      | (with_reducible refine xWhile ?_)
      | (with_reducible refine wpAny_Continue ?_)
      | (with_reducible refine wpAny_Break ?_))
    | ((with_reducible show wpAny _ _ (PySem.isTrue _ _ _) _ _ _); first
      | (with_reducible refine xIsCompare ?_)
      | (with_reducible refine isTrue_and_nil ?_)
      | (with_reducible refine isTrue_and ?_)
      | (with_reducible refine isTrue_or_nil ?_)
      | (with_reducible refine isTrue_or ?_)
      | (with_reducible refine isTrue_not ?_)
      | (with_reducible refine isTrue_IfExp ?_)
      | (with_reducible refine xIsPlain ?_))
    | ((with_reducible show wpAny _ _ (compareOp _ _ _) _ _ _); first
      | (with_reducible refine eqB ?_)
      | (with_reducible refine neB ?_)
      | (with_reducible refine eqI ?_)
      | (with_reducible refine neI ?_)
      | (with_reducible refine gtI ?_)
      | (with_reducible refine geI ?_)
      | (with_reducible refine eqS ?_)
      | (with_reducible refine isNoneN ?_)
      | (with_reducible refine isNoneR ?_)
      | (with_reducible refine isNoneB ?_)
      | (with_reducible refine notNoneN ?_)
      | (with_reducible refine notNoneR ?_)
      | (with_reducible refine notNoneB ?_)
      | ((with_reducible refine' dIn ?hd ?_); (case hd => walk_at "df"); intro _)
      | ((with_reducible refine' dNotIn ?hd ?_); (case hd => walk_at "df"); intro _)
      | ((with_reducible refine byLe ?_); intro _))
    | ((with_reducible show wpAny _ _ (call _ _ _) _ _ _); first
      | ((with_reducible refine byStarts ?_); intro _)
      | ((with_reducible refine' byLower ?hz ?_); (case hz => walk_at "sz"); intro _ _)
      | ((with_reducible refine ordC ?_); intro _ _)
      | ((with_reducible refine byOfBy ?_); intro _)
      | ((with_reducible refine strI (by omega) ?_); intro _ _)
      | ((with_reducible refine' dLen ?hd ?hz ?_); (case hd => walk_at "df"); (case hz => walk_at "sz"); intro _ _)
      | ((with_reducible refine' lenB ?hz ?_); (case hz => walk_at "sz"); intro _ _))
    | ((with_reducible show wpAny _ _ (getMethod _ _ _) _ _ _); first
      | (with_reducible refine byMeth X.slot_bytes_lower X.type_bytes_lower ?_)
      | (with_reducible refine byMeth X.slot_bytes_find X.type_bytes_find ?_)
      | (with_reducible refine byMeth X.slot_bytes_split X.type_bytes_split ?_)
      | (with_reducible refine byMeth X.slot_bytes_join X.type_bytes_join ?_)
      | (with_reducible refine byMeth X.slot_bytes_startswith X.type_bytes_startswith ?_)
      | ((with_reducible refine' aM (by assumption) (by assumption) (by assumption) ?hf ?hv ?_); (case hf => walk_at "m"); (case hv => exact rfl))
      | ((with_reducible refine' lMeth ?hl PySem.F.slot_list_append PySem.F.type_list_append ?_); (case hl => walk_at "at"))
      | ((with_reducible refine' lMeth ?hl PySem.F.slot_list_extend PySem.F.type_list_extend ?_); (case hl => walk_at "at"))
      | ((with_reducible refine' lMeth ?hl PySem.F.slot_list_pop PySem.F.type_list_pop ?_); (case hl => walk_at "at")))
    | ((with_reducible show wpAny _ _ (getAttr _ _ _) _ _ _); first
      | ((with_reducible refine' aF (by assumption) (by assumption) (by assumption) ?hf ?hv ?hh ?_); (case hf => kernel_rfl!); (case hv => exact rfl); (case hh => exact rfl); intro _))
    | ((with_reducible show wpAny _ _ (binaryOp _ _ _) _ _ _); first
      | ((with_reducible refine addI ?_); intro _ _)
      | ((with_reducible refine andI ?_); intro _ _)
      | ((with_reducible refine modI (by decide) ?_); intro _ _)
      | ((with_reducible refine subI ?_); intro _ _)
      | ((with_reducible refine' addBy ?hz ?_); (case hz => walk_at "sz"); intro _ _))
    | (with_reducible refine testsNil ?_)
    | (with_reducible refine wpAny_bindName ?_)
    | (with_reducible refine wpAny_assign_Name ?_)
    | ((with_reducible refine sL (by assumption) ?_); intro _ _ _)
    | ((with_reducible refine' dItem ?hd ?hv ?_); (case hd => walk_at "df"); (case hv => assumption); intro _)
    | (with_reducible refine partN ?_)
    | (with_reducible refine partS ?_)
    | (with_reducible refine wpAny_truthy_bool ?_)
    | (with_reducible refine aOrd ?_)
    | (with_reducible refine aOrd0 ?_)
    | ((with_reducible refine' lNew (by assumption) ?hz ?_); (case hz => walk_at "sz"); intro _ _ _ _)
    | ((with_reducible refine' tNew (by assumption) ?hz ?_); (case hz => walk_at "sz"); intro _ _ _ _)
    | (with_reducible refine ifT ?_)
    | (with_reducible refine ifF ?_)
    | ((with_reducible refine zNx zA ?_); clear zA zB; (try clear zZ))
    | ((with_reducible refine zOut zB (by kernel_rfl!) ?_); clear zA zB; (try clear zZ))
    | (with_reducible refine zEnd (by assumption) ?_)
    | (with_reducible refine zRet (by assumption) ?_)
    | (with_reducible refine kin (by assumption) (by assumption) ?_)
    | fail "no"
  trivial
-- F26
section
section
variable {prog : Program} {w : World} {mg mb : Str → Option Value} {p : Program} {loose : List Str} {A : Around} {E : Value → Shared → Prop}
  {g h : Heap} {mu : List (Addr × Obj)} {gs : Array GenState} {dr : Drawn} {tk : Nat} {os : OsState}
theorem walksOwnF26_1 : True := by
  k_with "go1" => first | (((with_reducible refine' aF (by assumption) (by assumption) (by assumption) ?hf ?hv ?hh ?_); (case hf => kernel_rfl!); (case hv => exact rfl); (case hh => first | exact rfl | assumption); intro _)) | fail "no"
  trivial
theorem OB.hand {v : Value} {o : Option BY} (O : OB v o) : handedIn v = true := by cases O <;> rfl
theorem row_spec {v : Value} {c : Ch} {Q : Value → Shared → Prop} {n : Nat} (C : Cx w mg mb p loose g) (k : Sub g h) (rm : Rm A (n + 1)) (I : IsCh g v c)
    (ret : ∀ x g' h' tk', Step [] g h g' h' → Own g' h' [] → IsLRow g' x c → Q x ⟨h', gs, dr, tk', os⟩) :
    wpAny (model prog w) A (call (.ref 558) [v]) Q E ⟨h, gs, dr, tk, os⟩ := by
  obtain ⟨x, t, m1, m2, v1, v2, v3, v4, sc, rfl, I, O1, O2, O3, O4⟩ := I
  have hh1 : handedIn v1 = true := O1.hand
  have hh2 : handedIn v2 = true := O2.hand
  have hh3 : handedIn v3 = true := O3.hand
  have hh4 : handedIn v4 = true := O4.hand
  refine wpAny_call ?_
  refine enter (f := 558) (fd := fdOf w 558) (body := bodyOf w 558) (binds := [("change", .ref x)]) C (Own.nil k) rm (oc := .type "function") (od := none) (osl := #[]) ?a ?b ?c ?d ?e ?walk ?f ?g ?i ?j
  case walk =>
    intro E h₁ tk₁ rm st Z0 z0
    walk_at "sx"
    walk_at "go"
    rename_i tu _ htu st
    refine st.freezeC htu fun g' sg hg st => ?_
    walk_at "go"
    exact ret _ g' _ _ st.step st.own ⟨tu, _, _, _, _, _, _, rfl, hg, O1, O2, O3, O4⟩
  all_goals walk_at "kr"

/-- change c has a side at or below pa -/
noncomputable def sideB (pa : BY) : Option BY → Bool
  | some s => touchP pa s
  | none => false
noncomputable def touchB (pa : BY) (c : Ch) : Bool := pa == [] || sideB pa c.opath || sideB pa c.npath
theorem touch_nil {c : Ch} : touchB [] c = true := rfl
noncomputable def SzOk (c : Ch) : Prop := (∀ s, c.opath = some s → s.length ≤ 100) ∧ (∀ s, c.npath = some s → s.length ≤ 100)
theorem within_spec {l : Addr} {vs : List Value} {nl : Nat} {cs : List Ch} {pa : BY} {t : Tok} {Q : Value → Shared → Prop} {n : Nat} (C : Cx w mg mb p loose g) (k : Sub g h) (rm : Rm A (n + 2)) (hl : g.get? l = some (lst vs.toArray nl)) (hv : All2 (IsCh g) vs cs) (hz : cs.length ≤ 1000) (hp : pa.length ≤ 100) (hs : ∀ c ∈ cs, SzOk c)
    (ret : ∀ D g' h' tk' vs' nl', Step [] g h g' h' → Own g' h' [] → g'.get? D = some (lst vs'.toArray nl') → All2 (IsCh g') vs' (cs.filter (touchB pa)) → Q (.ref D) ⟨h', gs, dr, tk', os⟩) :
    wpAny (model prog w) A (call (.ref 261) [.ref l, .bytes pa.toArray t]) Q E ⟨h, gs, dr, tk, os⟩ := by
  have hvl := hv.length
  refine wpAny_call ?_
  refine enter (f := 261) (fd := fdOf w 261) (body := bodyOf w 261) (binds := [("changes", .ref l), ("path", .bytes pa.toArray t)]) C (Own.nil k) rm (oc := .type "function") (od := none) (osl := #[]) ?a ?b ?c ?d ?e ?walk ?f ?g ?i ?j
  case walk =>
    intro E h₁ tk₁ rm st Z0 z0
    walk_at "sx"
    walk_at "go"
    by_cases hpa : pa = []
    · first | ((with_reducible refine ifP ?hc ?_); (case hc => exact (by simpa using hpa))) | rw [if_pos (by simpa using hpa)]
      walk_at "sx"
      refine wpAny_Return_some ?_
      refine evComp (cl := []) ?clos ?kind ?names ?fs ?main
      case main =>
        walk_at "go"
        refine compI (cl := []) none (Iter.list rm.hh (isl hl)) ?hn ?hcell ?hkind ?hL ?huse (by assumption) (fun i g' ys mu' => g' = g ∧ mu' = [] ∧ All2 (IsCh g) ys (cs.take i)) ⟨rfl, rfl, .nil⟩ ?turn ?done ?ht
        case ht => intro I v; rfl
        case hn => simp; unfold sizeLine; omega
        case turn =>
          intro h₀ S₀ C' D' I i v g₄ h₄ m₄ mu₄ tk₄ oI₀ oI ys na E hi hp' zj sg4 hl' fr st₀ hS st₄ Z Zn zn zs
          obtain ⟨rfl, rfl, hys⟩ := zj
          obtain ⟨c, hc, Ic⟩ := hv.get' (by simpa using hp')
          obtain ⟨x, tx, m1, m2, v1, v2, v3, v4, sc, rfl, Ix⟩ := id Ic
          walk_at "go"
          refine zn _ g₄ _ _ _ _ Sub.rfl ‹_› ⟨rfl, rfl, ?_⟩
          rw [List.take_add_one, hc]
          exact hys.snoc Ic
        case done =>
          rintro D g₁ h₁ mu₁ tk₁ ys na ⟨rfl, rfl, hys⟩ sg hl' hD st
          rw [List.take_of_length_le (by simp; omega)] at hys
          refine st.freezeC hD fun g' sg' hg' st => ?_
          walk_at "go"
          refine ret D g' _ _ ys na st.step st.own hg' ?_
          have : cs.filter (touchB pa) = cs := List.filter_eq_self.mpr fun c _ => by rw [hpa]; rfl
          rw [this]
          exact hys.mono fun _ _ q => q.sub sg'
        all_goals kernel_rfl!
      case names => decide
      case fs => intro x; kernel_rfl!
      all_goals kernel_rfl!
    · first | ((with_reducible refine ifN ?hc ?_); (case hc => exact (by simpa using hpa))) | rw [if_neg (by simpa using hpa)]
      walk_at "go"
      rename_i D _ hD _ _ _ st
      refine forI (Iter.list rm.hh (isl hl)) st (fun i g₁ m₁ mu₁ => ∃ ys ny, mu₁ = [(D, lst (ys : List Value).toArray ny)] ∧ All2 (IsCh g₁) ys ((cs.take i).filter (touchB pa)) ∧ m₁ "found" = some (.ref D) ∧ m₁ "path" = some (.bytes pa.toArray t)) ⟨[], 0, rfl, .nil, by walk_at "fr", by walk_at "fr"⟩ ?turn ?done ?ht
      case ht => intro I v; rfl
      case done =>
        rintro g₁ h₁ m₁ mu₁ tk₁ ⟨ys, ny, rfl, hys, f1, f2⟩ sg st
        rw [List.take_of_length_le (by simp; omega)] at hys
        walk_at "go"
        refine st.freezeC hD fun g' sg' hg' st => ?_
        walk_at "go"
        exact ret D g' _ _ ys ny st.step st.own hg' (hys.mono fun _ _ q => q.sub sg')
      case turn =>
        intro i v I g₁ h₁ m₁ mu₁ tk₁ oI E hi hp' zj sg st Z' zn' zb' zr'
        obtain ⟨ys, ny, rfl, hys, f1, f2⟩ := zj
        obtain ⟨c, hc, Ic⟩ := hv.get' (by simpa using hp')
        have hsz := hs c (List.mem_of_getElem? hc)
        have Ic := Ic.sub sg
        have C := C.sub sg
        obtain ⟨x, tx, m1, m2, v1, v2, v3, v4, sc, rfl, Ix, O1, O2, O3, O4⟩ := id Ic
        have hh2 : handedIn v2 = true := O2.hand
        have hh4 : handedIn v4 = true := O4.hand
        have htk : (cs.take (i + 1)).filter (touchB pa) = (cs.take i).filter (touchB pa) ++ (if touchB pa c = true then [c] else []) := by
          rw [List.take_add_one, hc, List.filter_append]
          congr 1
          by_cases q : touchB pa c = true
          · rw [if_pos q]; simp [q]
          · rw [if_neg q]; simp [q]
        have hyl : ys.length ≤ 1000 := by
          rw [hys.length]
          exact Nat.le_trans (List.length_filter_le _ _) (by simp; omega)
        walk_at "go"
        rename_i tu _ htu st
        refine st.freezeC htu fun g₂ sg2 hg2 st => ?_
        have sides : All2 OB [v2, v4] [c.opath, c.npath] := .cons O2 (.cons O4 .nil)
        refine forI (Iter.tup rm.hh (ist hg2)) st (fun j g₃ m₃ mu₃ => g₃ = g₂ ∧ mu₃ = [(I, oI), (D, lst ys.toArray ny)] ∧ (∀ o ∈ [c.opath, c.npath].take j, sideB pa o = false) ∧ m₃ "found" = some (.ref D) ∧ m₃ "path" = some (.bytes pa.toArray t) ∧ m₃ "change" = some (.ref x)) ⟨rfl, rfl, by simp, by walk_at "fr", by walk_at "fr", by walk_at "fr"⟩ ?turn2 ?done2 ?ht2
        case ht2 => intro I v; rfl
        case done2 =>
          rintro g₃ h₃ m₃ mu₃ tk₃ ⟨rfl, rfl, hno, f1, f2, f3⟩ sg3 st
          walk_at "go"
          refine zn' _ g₃ _ _ _ _ rfl sg2 st ⟨ys, ny, rfl, ?_, f1, f2⟩
          have hf : touchB pa c = false := by
            have h1 := hno c.opath (by simp)
            have h2 := hno c.npath (by simp)
            show (pa == [] || sideB pa c.opath || sideB pa c.npath) = false
            rw [h1, h2]; simp [hpa]
          rw [htk, hf, if_neg (by decide), List.append_nil]
          exact hys.mono fun _ _ q => q.sub sg2
        case turn2 =>
          intro j v I₂ g₃ h₃ m₃ mu₃ tk₃ oI₂ E hj hp2 zj sg3 st Z zn zb zr
          obtain ⟨rfl, rfl, hno, f1, f2, f3⟩ := zj
          obtain ⟨o, ho, Oo⟩ := sides.get' (by simpa using hp2)
          have htk2 : [c.opath, c.npath].take (j + 1) = [c.opath, c.npath].take j ++ [o] := by rw [List.take_add_one, ho]; rfl
          have hsd : ∀ s, o = some s → s.length ≤ 100 := fun s e => by
            subst e
            have hm := List.mem_of_getElem? ho
            simp only [List.mem_cons, List.not_mem_nil, or_false] at hm
            rcases hm with q | q
            · exact hsz.1 s q.symm
            · exact hsz.2 s q.symm
          have noNext : sideB pa o = false → ∀ o' ∈ [c.opath, c.npath].take (j + 1), sideB pa o' = false := fun q o' h' => by
            rw [htk2] at h'
            rcases List.mem_append.mp h' with h' | h'
            · exact hno o' h'
            · rw [List.mem_singleton.mp h']; exact q
          have yes : sideB pa o = true → touchB pa c = true := fun q => by
            have hm := List.mem_of_getElem? ho
            simp only [List.mem_cons, List.not_mem_nil, or_false] at hm
            show (pa == [] || sideB pa c.opath || sideB pa c.npath) = true
            rcases hm with e | e <;> rw [← e, q] <;> simp
          cases Oo with
          | none =>
            walk_at "go"
            obtain st : St _ _ _ _ _ _ _ _ := by assumption
            exact zn _ g₃ _ _ _ _ rfl Sub.rfl st ⟨rfl, rfl, noNext rfl, by walk_at "fr", by walk_at "fr", by walk_at "fr"⟩
          | some s ts =>
            have hsl := hsd s rfl
            walk_at "go"
            by_cases e1 : s = pa
            · have hS : sideB pa (some s) = true := by show touchP pa s = true; unfold touchP; simp [e1]
              first | ((with_reducible refine ifP ?hc ?_); (case hc => exact (by simpa using e1))) | rw [if_pos (by simpa using e1)]
              walk_at "go"
              obtain st : St _ _ _ _ _ _ [(I₂, oI₂), (I, oI), (D, lst ys.toArray ny)] _ := by assumption
              refine lAppend st 2 rfl (by omega) fun h' st => ?_
              walk_at "go"
              refine zb _ ?_
              walk_at "go"
              refine zn' _ g₃ _ _ _ _ rfl sg2 (st.sub (List.sublist_cons_self _ _)) ⟨ys ++ [.ref x], ny + 1, rfl, ?_, by walk_at "fr", by walk_at "fr"⟩
              rw [htk, yes hS, if_pos rfl]
              exact (hys.mono fun _ _ q => q.sub sg2).snoc (Ic.sub sg2)
            · first | ((with_reducible refine ifN ?hc ?_); (case hc => exact (by simpa using e1))) | rw [if_neg (by simpa using e1)]
              walk_at "go"
              by_cases e2 : (pa ++ [47]).isPrefixOf s = true
              · have hS : sideB pa (some s) = true := by show touchP pa s = true; unfold touchP; rw [e2]; simp
                first | ((with_reducible refine ifP ?hc ?_); (case hc => exact e2)) | rw [if_pos e2]
                walk_at "go"
                obtain st : St _ _ _ _ _ _ [(I₂, oI₂), (I, oI), (D, lst ys.toArray ny)] _ := by assumption
                refine lAppend st 2 rfl (by omega) fun h' st => ?_
                walk_at "go"
                refine zb _ ?_
                walk_at "go"
                refine zn' _ g₃ _ _ _ _ rfl sg2 (st.sub (List.sublist_cons_self _ _)) ⟨ys ++ [.ref x], ny + 1, rfl, ?_, by walk_at "fr", by walk_at "fr"⟩
                rw [htk, yes hS, if_pos rfl]
                exact (hys.mono fun _ _ q => q.sub sg2).snoc (Ic.sub sg2)
              · have hS : sideB pa (some s) = false := by show touchP pa s = false; unfold touchP; rw [Bool.not_eq_true] at e2; rw [e2]; simp [hpa, e1]
                first | ((with_reducible refine ifN ?hc ?_); (case hc => exact e2)) | rw [if_neg e2]
                walk_at "go"
                obtain st : St _ _ _ _ _ _ _ _ := by assumption
                exact zn _ g₃ _ _ _ _ rfl Sub.rfl st ⟨rfl, rfl, noNext hS, by walk_at "fr", by walk_at "fr", by walk_at "fr"⟩
  all_goals walk_at "kr"
end
end
theorem walksAgain_3 : True := by
  k_with_none
  k_with "g" => first
    | with_reducible exact g_ADDED
    | with_reducible exact g_BLOB
    | with_reducible exact g_CountingHasher
    | with_reducible exact g_DIR
    | with_reducible exact g_Entry
    | with_reducible exact g_FILE
    | with_reducible exact g_FOLDER
    | with_reducible exact g_GONE
    | with_reducible exact g_LINK
    | with_reducible exact g_MODULE
    | with_reducible exact g_MemoryStore
    | with_reducible exact g_OBJECT_MODES
    | with_reducible exact g_OTHER
    | with_reducible exact g_OTHER_KIND
    | with_reducible exact g_PLAIN
    | with_reducible exact g_PathChange
    | with_reducible exact g_SUB
    | with_reducible exact g_TREE
    | with_reducible exact g_Tree
    | with_reducible exact g__law_deck
    | with_reducible exact g__law_draw
    | with_reducible exact g__law_row
    | with_reducible exact g__law_touches
    | with_reducible exact g__law_tree
    | with_reducible exact b_bytearray
    | with_reducible exact b_bytes
    | with_reducible exact b_int
    | with_reducible exact b_len
    | with_reducible exact b_ord
    | with_reducible exact b_range
    | with_reducible exact b_sorted
    | with_reducible exact b_str
    | with_reducible exact g_big_endian
    | with_reducible exact g_check_tree
    | with_reducible exact g_diff_trees
    | with_reducible exact g_object_are_all
    | with_reducible exact g_object_by_eights
    | with_reducible exact g_object_has_sign
    | with_reducible exact g_object_name_fault
    | with_reducible exact g_object_octets
    | with_reducible exact g_octets_of
    | with_reducible exact g_tree_faults
    | with_reducible exact g_treediff_added
    | with_reducible exact g_treediff_beside
    | with_reducible exact g_treediff_entries
    | with_reducible exact g_treediff_folders
    | with_reducible exact g_treediff_gone
    | with_reducible exact g_treediff_is_alike
    | with_reducible exact g_treediff_joined
    | with_reducible exact g_treediff_kind
    | with_reducible exact g_treediff_order
    | with_reducible exact g_treediff_within
    | fail "no"
  k_with "m" => first
    | with_reducible exact m_108_digest
    | with_reducible exact m_314_sort_key
    | with_reducible exact m_314_octets
    | with_reducible exact m_363_octets
    | with_reducible exact m_525_keep
    | with_reducible exact m_525_write
    | with_reducible exact m_525_write_tree
    | with_reducible exact m_525_row_of
    | with_reducible exact m_525_of_kind
    | with_reducible exact m_525_tree
    | fail "no"
  k_with "sz" => first | (with_reducible assumption) | omega | (simp only [List.length_append, List.length_cons, List.length_nil, List.size_toArray]; omega) | (simp only [List.length_append, List.length_cons, List.length_nil, List.size_toArray] at *; omega) | fail "no"
  k_with "at" => first | (with_reducible exact St.at (by assumption) 0 rfl) | (with_reducible exact St.at (by assumption) 1 rfl) | (with_reducible exact St.at (by assumption) 2 rfl) | (with_reducible exact St.at (by assumption) 3 rfl) | (with_reducible exact St.at (by assumption) 4 rfl) | (with_reducible exact St.at (by assumption) 5 rfl) | (with_reducible exact St.at (by assumption) 6 rfl) | (exact (St.own (by assumption)).keep _ _ (by assumption)) | fail "no"
  k_with "df" => first | (with_reducible exact St.dict (by assumption) 0 rfl (by assumption)) | (with_reducible exact St.dict (by assumption) 1 rfl (by assumption)) | (with_reducible exact St.dict (by assumption) 2 rfl (by assumption)) | (with_reducible exact St.dict (by assumption) 3 rfl (by assumption)) | (with_reducible exact St.dict (by assumption) 4 rfl (by assumption)) | (with_reducible exact St.dict (by assumption) 5 rfl (by assumption)) | (with_reducible exact DF.sub (by assumption) (St.own (by assumption)).keep) | fail "no"
  k_with "fr" => first | exact rfl | assumption | (refine updN (by decide) ?_; first | exact rfl | assumption | (refine updN (by decide) ?_; first | exact rfl | assumption | (refine updN (by decide) ?_; first | exact rfl | assumption | (refine updN (by decide) ?_; first | exact rfl | assumption)))) | fail "no"
  k_with "sx" => first | ((try ((with_reducible refine zNx zA ?_); clear zA zB; (try clear zZ))); refine xExecsZ ?_; intro zZ zA zB) | fail "no"
  k_with "go" => repeat' (walk_at "go1")
  k_with "kr" => first | kernel_rfl! | (refine BindsTo.of_eq ?_; kernel_rfl!) | fail "no"
  k_with "go1" => first
    | ((with_reducible show wpAny _ _ (eval _ _) _ _ _); first
      | ((with_reducible show wpAny _ _ (eval (Expr.Name _ _) _) _ _ _); first | ((with_reducible refine' nL (by assumption) ?hv ?_); (case hv => walk_at "fr")) | ((with_reducible refine' nG (by assumption) (by assumption) ?hg ?_); (case hg => walk_at "g")) | ((with_reducible refine' nB (by assumption) (by assumption) ?hb ?_); (case hb => walk_at "g")))
      | (with_reducible refine xAttrN ?_)
      | (with_reducible refine xAttr ?_)
      | ((with_reducible show wpAny _ _ (eval (Expr.Constant ..) _) _ _ _); first
        | ((with_reducible refine conBy ?_); intro _ _)
        | ((with_reducible refine conInt ?_); intro _ _)
        | ((with_reducible refine conStr ?_); intro _ _)
        | (with_reducible refine wpAny_Constant_none ?_)
        | (with_reducible refine wpAny_Constant_bool ?_))
      | (with_reducible refine xMethod ?_)
      | (with_reducible refine xCall ?_)
      | (with_reducible refine xCut ?_)
      | (with_reducible refine Subscript_ ?_)
      | (with_reducible refine xCompare ?_)
      | (with_reducible refine wpAny_BinOp ?_)
      | (with_reducible refine Tuple_ ?_)
      | (with_reducible refine List_ ?_)
      | (with_reducible refine wpAny_IfExp ?_)
      | ((with_reducible refine' dNew (by assumption) (by assumption) ?_); intro _ _ _ _ _ _)
      | (with_reducible refine BoolOp_and ?_)
      | (with_reducible refine BoolOp_or ?_)
      | (with_reducible refine BoolOp_one ?_))
    | ((with_reducible show wpAny _ _ (callWith _ _ _ _ _) _ _ _); first
      | (with_reducible refine cBn ?_)
      | (with_reducible refine cB1 ?_)
      | (with_reducible refine cB01 ?_)
      | (with_reducible refine cT ?_)
      | ((with_reducible refine cGn ?hk ?_); (case hk => kernel_rfl!))
      | ((with_reducible refine cG1 ?hk ?_); (case hk => kernel_rfl!))
      | ((with_reducible refine cG01 (by assumption) (by assumption) ?hk ?_); (case hk => kernel_rfl!)))
    | ((with_reducible show wpAny _ _ (spliced _) _ _ _); first
      | (with_reducible refine xSplCons ?_)
      | (with_reducible refine xSplNil ?_))
    | ((with_reducible refine xExecsZ ?_); intro zZ zA zB)
    | (with_reducible refine wpAny_execs_nil ?_)
    | ((with_reducible show wpAny _ _ (exec _ _) _ _ _); first
      | (with_reducible refine xAssign ?_)
      | (with_reducible refine xAssignSub ?_)
      | (with_reducible refine xAssignAttr ?_)
      | (with_reducible refine xExpr ?_)
      | (with_reducible refine xIf ?_)
      | (with_reducible refine wpAny_Return_some ?_)
      | (with_reducible refine xFor ?_)
      | (with_reducible refine xWhile ?_)
      | (with_reducible refine wpAny_Continue ?_)
      | (with_reducible refine wpAny_Break ?_))
    | ((with_reducible show wpAny _ _ (PySem.isTrue _ _ _) _ _ _); first
      | (with_reducible refine xIsCompare ?_)
      | (with_reducible refine isTrue_and_nil ?_)
      | (with_reducible refine isTrue_and ?_)
      | (with_reducible refine isTrue_or_nil ?_)
      | (with_reducible refine isTrue_or ?_)
      | (with_reducible refine isTrue_not ?_)
      | (with_reducible refine isTrue_IfExp ?_)
      | (with_reducible refine xIsPlain ?_))
    | ((with_reducible show wpAny _ _ (compareOp _ _ _) _ _ _); first
      | (with_reducible refine eqB ?_)
      | (with_reducible refine neB ?_)
      | (with_reducible refine eqI ?_)
      | (with_reducible refine neI ?_)
      | (with_reducible refine gtI ?_)
      | (with_reducible refine geI ?_)
      | (with_reducible refine eqS ?_)
      | (with_reducible refine isNoneN ?_)
      | (with_reducible refine isNoneR ?_)
      | (with_reducible refine isNoneB ?_)
      | (with_reducible refine notNoneN ?_)
      | (with_reducible refine notNoneR ?_)
      | (with_reducible refine notNoneB ?_)
      | ((with_reducible refine' dIn ?hd ?_); (case hd => walk_at "df"); intro _)
      | ((with_reducible refine' dNotIn ?hd ?_); (case hd => walk_at "df"); intro _)
      | ((with_reducible refine byLe ?_); intro _))
    | ((with_reducible show wpAny _ _ (call _ _ _) _ _ _); first
      | ((with_reducible refine byStarts ?_); intro _)
      | ((with_reducible refine' byLower ?hz ?_); (case hz => walk_at "sz"); intro _ _)
      | ((with_reducible refine ordC ?_); intro _ _)
      | ((with_reducible refine byOfBy ?_); intro _)
      | ((with_reducible refine strI (by omega) ?_); intro _ _)
      | ((with_reducible refine' dLen ?hd ?hz ?_); (case hd => walk_at "df"); (case hz => walk_at "sz"); intro _ _)
      | ((with_reducible refine' lenB ?hz ?_); (case hz => walk_at "sz"); intro _ _))
    | ((with_reducible show wpAny _ _ (getMethod _ _ _) _ _ _); first
      | (with_reducible refine byMeth X.slot_bytes_lower X.type_bytes_lower ?_)
      | (with_reducible refine byMeth X.slot_bytes_find X.type_bytes_find ?_)
      | (with_reducible refine byMeth X.slot_bytes_split X.type_bytes_split ?_)
      | (with_reducible refine byMeth X.slot_bytes_join X.type_bytes_join ?_)
      | (with_reducible refine byMeth X.slot_bytes_startswith X.type_bytes_startswith ?_)
      | ((with_reducible refine' aM (by assumption) (by assumption) (by assumption) ?hf ?hv ?_); (case hf => walk_at "m"); (case hv => exact rfl))
      | ((with_reducible refine' lMeth ?hl PySem.F.slot_list_append PySem.F.type_list_append ?_); (case hl => walk_at "at"))
      | ((with_reducible refine' lMeth ?hl PySem.F.slot_list_extend PySem.F.type_list_extend ?_); (case hl => walk_at "at"))
      | ((with_reducible refine' lMeth ?hl PySem.F.slot_list_pop PySem.F.type_list_pop ?_); (case hl => walk_at "at")))
    | ((with_reducible show wpAny _ _ (getAttr _ _ _) _ _ _); first
      | ((with_reducible refine' aF (by assumption) (by assumption) (by assumption) ?hf ?hv ?hh ?_); (case hf => kernel_rfl!); (case hv => exact rfl); (case hh => exact rfl); intro _))
    | ((with_reducible show wpAny _ _ (binaryOp _ _ _) _ _ _); first
      | ((with_reducible refine addI ?_); intro _ _)
      | ((with_reducible refine andI ?_); intro _ _)
      | ((with_reducible refine modI (by decide) ?_); intro _ _)
      | ((with_reducible refine subI ?_); intro _ _)
      | ((with_reducible refine' addBy ?hz ?_); (case hz => walk_at "sz"); intro _ _))
    | (with_reducible refine testsNil ?_)
    | (with_reducible refine wpAny_bindName ?_)
    | (with_reducible refine wpAny_assign_Name ?_)
    | ((with_reducible refine sL (by assumption) ?_); intro _ _ _)
    | ((with_reducible refine' dItem ?hd ?hv ?_); (case hd => walk_at "df"); (case hv => assumption); intro _)
    | (with_reducible refine partN ?_)
    | (with_reducible refine partS ?_)
    | (with_reducible refine wpAny_truthy_bool ?_)
    | (with_reducible refine aOrd ?_)
    | (with_reducible refine aOrd0 ?_)
    | ((with_reducible refine' lNew (by assumption) ?hz ?_); (case hz => walk_at "sz"); intro _ _ _ _)
    | ((with_reducible refine' tNew (by assumption) ?hz ?_); (case hz => walk_at "sz"); intro _ _ _ _)
    | (with_reducible refine ifT ?_)
    | (with_reducible refine ifF ?_)
    | ((with_reducible refine zNx zA ?_); clear zA zB; (try clear zZ))
    | ((with_reducible refine zOut zB (by kernel_rfl!) ?_); clear zA zB; (try clear zZ))
    | (with_reducible refine zEnd (by assumption) ?_)
    | (with_reducible refine zRet (by assumption) ?_)
    | (with_reducible refine kin (by assumption) (by assumption) ?_)
    | fail "no"
  trivial
-- F27
section
theorem walksOwnF27_1 : True := by
  k_with "go1" => first | (((with_reducible refine' aF (by assumption) (by assumption) (by assumption) ?hf ?hv ?hh ?_); (case hf => kernel_rfl!); (case hv => exact rfl); (case hh => first | exact rfl | assumption); intro _)) | fail "no"
  trivial
section
variable {prog : Program} {w : World} {mg mb : Str → Option Value} {p : Program} {loose : List Str} {A : Around} {E : Value → Shared → Prop}
  {g h : Heap} {mu : List (Addr × Obj)} {gs : Array GenState} {dr : Drawn} {tk : Nat} {os : OsState}
theorem take_pre {pa s : BY} : (s.take (pa.length + 1) == pa ++ [47]) = (pa ++ [47]).isPrefixOf s := by
  rw [Bool.eq_iff_iff, beq_iff_eq, List.isPrefixOf_iff_prefix, List.prefix_iff_eq_take]
  rw [List.length_append]
  exact eq_comm
noncomputable def sidesOf (c : Ch) : List BY := [c.opath, c.npath].filterMap id
theorem touch_sides {pa : BY} {c : Ch} (h : pa ≠ []) : (((sidesOf c).filter fun s => s == pa || s.take (pa.length + 1) == pa ++ [47]) != []) = touchB pa c := by
  have e : ∀ s, (s == pa || s.take (pa.length + 1) == pa ++ [47]) = touchP pa s := fun s => by
    rw [take_pre]
    unfold touchP
    have : (pa == []) = false := by simpa using h
    rw [this, Bool.false_or]
  have e' : (fun s => s == pa || s.take (pa.length + 1) == pa ++ [47]) = touchP pa := funext e
  rw [e']
  obtain ⟨wd, a, b, x, y⟩ := c
  have hp : (pa == []) = false := by simpa using h
  have hd : ∀ c : Ch, touchB pa c = (sideB pa c.opath || sideB pa c.npath) := fun c => by unfold touchB; rw [hp, Bool.false_or]
  rw [hd]
  cases b with
  | none => cases y with
    | none => rfl
    | some t =>
      show (([t].filter (touchP pa)) != []) = (false || touchP pa t)
      by_cases q : touchP pa t = true
      · rw [List.filter_cons_of_pos q, q]; rfl
      · rw [List.filter_cons_of_neg q]; rw [Bool.not_eq_true] at q; rw [q]; rfl
  | some s => cases y with
    | none =>
      show (([s].filter (touchP pa)) != []) = (touchP pa s || false)
      by_cases q : touchP pa s = true
      · rw [List.filter_cons_of_pos q, q]; rfl
      · rw [List.filter_cons_of_neg q]; rw [Bool.not_eq_true] at q; rw [q]; rfl
    | some t =>
      show (([s, t].filter (touchP pa)) != []) = (touchP pa s || touchP pa t)
      by_cases q : touchP pa s = true
      · rw [List.filter_cons_of_pos q, q]; rfl
      · rw [List.filter_cons_of_neg q]
        rw [Bool.not_eq_true] at q
        rw [q, Bool.false_or]
        by_cases r : touchP pa t = true
        · rw [List.filter_cons_of_pos r, r]; rfl
        · rw [List.filter_cons_of_neg r]; rw [Bool.not_eq_true] at r; rw [r]; rfl
theorem sides_all {v2 v4 : Value} {c : Ch} (O2 : OB v2 c.opath) (O4 : OB v4 c.npath) : All2 OB [v2, v4] [c.opath, c.npath] := .cons O2 (.cons O4 .nil)
theorem BysAre.nn {vs : List Value} {bs : List BY} (h : BysAre vs bs) : (vs != []) = (bs != []) := by cases h <;> rfl
theorem touches_spec {v : Value} {c : Ch} {pa : BY} {t : Tok} {Q : Value → Shared → Prop} {n : Nat} (C : Cx w mg mb p loose g) (k : Sub g h) (rm : Rm A (n + 2)) (Ic : IsCh g v c) (hp : pa.length ≤ 100) (hs : SzOk c)
    (ret : ∀ h' tk', Step [] g h g h' → Own g h' [] → Q (.bool (touchB pa c)) ⟨h', gs, dr, tk', os⟩) :
    wpAny (model prog w) A (call (.ref 551) [v, .bytes pa.toArray t]) Q E ⟨h, gs, dr, tk, os⟩ := by
  obtain ⟨x, tx, m1, m2, v1, v2, v3, v4, sc, rfl, Ix, O1, O2, O3, O4⟩ := id Ic
  have hh2 : handedIn v2 = true := O2.hand
  have hh4 : handedIn v4 = true := O4.hand
  have sides := sides_all O2 O4
  refine wpAny_call ?_
  refine enterCells (f := 551) (fd := fdOf w 551) (body := bodyOf w 551) (binds := [("change", .ref x), ("path", .bytes pa.toArray t)]) C (Own.nil k) rm (oc := .type "function") (od := none) (osl := #[]) ?a ?b ?c ?d ?dc ?e ?nd ?walk ?f ?g ?i
  case walk =>
    intro E h₁ tk₁ obj rm hob st Z0 z0
    have hcell : (obj (h.objs.size + 1)).data = .cell (some (.bytes pa.toArray t)) := (hob "path" _ (by kernel_rfl)).trans (by kernel_rfl)
    have st : St g h [] g h.objs.size _ [(h.objs.size + 1, obj (h.objs.size + 1))] h₁ := st
    generalize hm : bindL (callEnvC (fdOf w 551) h.objs.size 551).kindOf [("change", .ref x), ("path", .bytes pa.toArray t)] (fun _ => none) = m at st
    have f1 : m "change" = some (.ref x) := by rw [← hm]; kernel_rfl
    clear hm
    generalize hcl : h.objs.size + 1 = cl at st hcell
    generalize obj cl = oC at st hcell
    walk_at "sx"
    refine exComp (cl := []) ?sw ?clos ?kind ?names ?fs ?main
    case main =>
      walk_at "go"
      rename_i tu _ htu st
      refine st.freezeC htu fun g₂ sg2 hg2 st => ?_
      refine compI (cl := []) (some _) (Iter.tup rm.hh (ist hg2)) ?hn ?hcell ?hkind ?hL ?huse st (fun i g' ys mu' => g' = g₂ ∧ mu' = [(cl, oC)] ∧ BysAre ys (([c.opath, c.npath].take i).filterMap id)) ⟨rfl, rfl, .nil⟩ ?turn ?done ?ht
      case ht => intro I v; rfl
      case hn => show 2 ≤ sizeLine; unfold sizeLine; omega
      case turn =>
        intro h₀ S₀ C' D' I i v g₄ h₄ m₄ mu₄ tk₄ oI₀ oI ys na E hi hp' zj sg4 hl' fr st₀ hS st₄ Z Zn zn zs
        obtain ⟨rfl, rfl, hys⟩ := zj
        obtain ⟨o, ho, Oo⟩ := sides.get' (by simpa using hp')
        have htk : ([c.opath, c.npath].take (i + 1)).filterMap id = ([c.opath, c.npath].take i).filterMap id ++ o.toList := by
          rw [List.take_add_one, ho, List.filterMap_append]
          cases o <;> rfl
        cases Oo with
        | none =>
          walk_at "go"
          refine testsOne ?_
          walk_at "go"
          refine zs g₄ _ _ _ _ Sub.rfl ‹_› ⟨rfl, rfl, ?_⟩
          rw [htk]
          simpa using hys
        | some s ts =>
          walk_at "go"
          refine testsOne ?_
          walk_at "go"
          refine zn _ g₄ _ _ _ _ Sub.rfl ‹_› ⟨rfl, rfl, ?_⟩
          rw [htk]
          exact hys.snoc
      case done =>
        rintro D g₁ h₁ mu₁ tk₁ ys na ⟨rfl, rfl, hys⟩ sg hl' hD st
        have hys : BysAre ys (sidesOf c) := hys
        have hsl : (sidesOf c).length ≤ 2 := List.length_filterMap_le _ _
        have hss : ∀ s ∈ sidesOf c, s.length ≤ 100 := fun s hm => by
          obtain ⟨o, ho, e⟩ := List.mem_filterMap.mp hm
          have e : o = some s := e
          subst e
          simp only [List.mem_cons, List.not_mem_nil, or_false] at ho
          rcases ho with q | q
          · exact hs.1 s q.symm
          · exact hs.2 s q.symm
        refine st.freezeC hD fun g₃ sg3 hgD st => ?_
        have C := C.sub (sg2.trans sg3)
        (try dsimp only)
        walk_at "sx"
        refine wpAny_Return_some ?_
        refine BoolOp_or ?_
        refine xCompare ?_
        refine nC (st.at 0 rfl) hcell ?_ (cellAt (by kernel_rfl) hcl)
        walk_at "go"
        by_cases hpa : pa = []
        · first | ((with_reducible refine ifP ?hc ?_); (case hc => exact (by simpa using hpa))) | rw [if_pos (by simpa using hpa)]
          have e : (pa == []) = touchB pa c := by rw [hpa]; rfl
          rw [e]
          walk_at "go"
          exact ret _ _ st.step.drop ((st.sub (List.nil_sublist _)).own.drop (sg2.trans sg3))
        first | ((with_reducible refine ifN ?hc ?_); (case hc => exact (by simpa using hpa))) | rw [if_neg (by simpa using hpa)]
        walk_at "go"
        refine evComp (cl := [("path", cl)]) ?clos2 ?kind2 ?names2 ?fs2 ?main2
        case clos2 => rw [← hcl]; kernel_rfl
        case main2 =>
          walk_at "go"
          obtain st : St _ _ _ _ _ _ [(cl, oC)] _ := by assumption
          refine compI (cl := [("path", cl)]) none (Iter.list rm.hh (isl hgD)) ?hn2 ?hcell2 ?hkind2 ?hL2 ?huse2 st (fun i g' ys2 mu' => g' = g₃ ∧ mu' = [(cl, oC)] ∧ BysAre ys2 (((sidesOf c).take i).filter fun s => s == pa || s.take (pa.length + 1) == pa ++ [47])) ⟨rfl, rfl, .nil⟩ ?turn2 ?done2 ?ht2
          case ht2 => intro I v; rfl
          case hn2 => have := hys.length; simp; unfold sizeLine; omega
          case turn2 =>
            intro h₀ S₀ C' D' I i v g₆ h₆ m₆ mu₆ tk₆ oI₀ oI ys2 na E hi hp' zj sg6 hl2 fr st₀ hS st₆ Z Zn zn zs
            obtain ⟨rfl, rfl, hys2⟩ := zj
            have hi' : i < (sidesOf c).length := by have := hys.length; simp at hi; omega
            obtain ⟨ts, hvn⟩ := hys.get (List.getElem?_eq_getElem hi')
            have hp' : ys[i]? = some v := by simpa using hp'
            rw [hp'] at hvn
            cases hvn
            have hsz := hss _ (List.getElem_mem hi')
            have htk : (sidesOf c).take (i + 1) = (sidesOf c).take i ++ [(sidesOf c)[i]] := List.take_succ_eq_append_getElem hi'
            generalize (sidesOf c)[i] = s at hsz htk ⊢
            walk_at "go"
            refine testsOne ?_
            walk_at "go"
            obtain st : St _ _ _ _ _ _ _ _ := by assumption
            refine nC (st.at 2 rfl) hcell ?_
            walk_at "go"
            have keep : ∀ (b : Bool), (s == pa || s.take (pa.length + 1) == pa ++ [47]) = b → ((sidesOf c).take (i + 1)).filter (fun s => s == pa || s.take (pa.length + 1) == pa ++ [47]) = ((sidesOf c).take i).filter (fun s => s == pa || s.take (pa.length + 1) == pa ++ [47]) ++ (if b = true then [s] else []) := fun b hb => by
              rw [htk, List.filter_append]
              congr 1
              subst hb
              by_cases q : (s == pa || s.take (pa.length + 1) == pa ++ [47]) = true
              · rw [List.filter_cons_of_pos (by exact q), if_pos q]; rfl
              · rw [List.filter_cons_of_neg (by exact q), if_neg q]; rfl
            by_cases e1 : s = pa
            · first | ((with_reducible refine ifP ?hc ?_); (case hc => exact (by simpa using e1))) | rw [if_pos (by simpa using e1)]
              walk_at "go"
              refine zn _ g₆ _ _ _ _ Sub.rfl ‹_› ⟨rfl, rfl, ?_⟩
              rw [keep true (by simp [e1]), if_pos rfl]
              exact hys2.snoc
            · first | ((with_reducible refine ifN ?hc ?_); (case hc => exact (by simpa using e1))) | rw [if_neg (by simpa using e1)]
              walk_at "go"
              obtain st : St _ _ _ _ _ _ _ _ := by assumption
              refine nC (st.at 2 rfl) hcell ?_
              walk_at "go"
              obtain st : St _ _ _ _ _ _ _ _ := by assumption
              rw [show ((pa.length : Int) + 1) = ((pa.length + 1 : Nat) : Int) by omega]
              refine byCut st .none (.int _ _) (by omega) fun h' tk' t' st => ?_
              rw [cutL_upto]
              walk_at "go"
              obtain st : St _ _ _ _ _ _ _ _ := by assumption
              refine nC (st.at 2 rfl) hcell ?_
              walk_at "go"
              by_cases e2 : s.take (pa.length + 1) = pa ++ [47]
              · first | ((with_reducible refine ifP ?hc ?_); (case hc => exact (by simpa using e2))) | rw [if_pos (by simpa using e2)]
                walk_at "go"
                refine zn _ g₆ _ _ _ _ Sub.rfl ‹_› ⟨rfl, rfl, ?_⟩
                rw [keep true (by simp [e2]), if_pos rfl]
                exact hys2.snoc
              · first | ((with_reducible refine ifN ?hc ?_); (case hc => exact (by simpa using e2))) | rw [if_neg (by simpa using e2)]
                walk_at "go"
                refine zs g₆ _ _ _ _ Sub.rfl ‹_› ⟨rfl, rfl, ?_⟩
                rw [keep false (by simp [e1, e2]), if_neg (by decide), List.append_nil]
                exact hys2
          case done2 =>
            rintro D2 g₆ h₆ mu₆ tk₆ ys2 na2 ⟨rfl, rfl, hys2⟩ sg6 hl2 hD2 st
            rw [List.take_of_length_le (by have := hys.length; simp; omega)] at hys2
            walk_at "go"
            rename_i D3 _ hD3 st
            refine neNil (vs := ys2) (by have := rm.u; unfold cLine; omega) (st.at 1 rfl) (st.at 0 rfl) ?_
            have e : (ys2 != []) = touchB pa c := by
              rw [← touch_sides hpa]
              exact hys2.nn
            rw [e]
            walk_at "go"
            exact ret _ _ st.step.drop ((st.sub (List.nil_sublist _)).own.drop (sg2.trans sg3))
          all_goals kernel_rfl!
        case names2 => decide
        case fs2 => intro x; kernel_rfl!
        all_goals kernel_rfl!
      all_goals kernel_rfl!
    case names => decide
    case fs => intro x; kernel_rfl!
    all_goals kernel_rfl!
  all_goals walk_at "kr"
end
end
theorem walksAgain_4 : True := by
  k_with_none
  k_with "g" => first
    | with_reducible exact g_ADDED
    | with_reducible exact g_BLOB
    | with_reducible exact g_CountingHasher
    | with_reducible exact g_DIR
    | with_reducible exact g_Entry
    | with_reducible exact g_FILE
    | with_reducible exact g_FOLDER
    | with_reducible exact g_GONE
    | with_reducible exact g_LINK
    | with_reducible exact g_MODULE
    | with_reducible exact g_MemoryStore
    | with_reducible exact g_OBJECT_MODES
    | with_reducible exact g_OTHER
    | with_reducible exact g_OTHER_KIND
    | with_reducible exact g_PLAIN
    | with_reducible exact g_PathChange
    | with_reducible exact g_SUB
    | with_reducible exact g_TREE
    | with_reducible exact g_Tree
    | with_reducible exact g__law_deck
    | with_reducible exact g__law_draw
    | with_reducible exact g__law_row
    | with_reducible exact g__law_touches
    | with_reducible exact g__law_tree
    | with_reducible exact b_bytearray
    | with_reducible exact b_bytes
    | with_reducible exact b_int
    | with_reducible exact b_len
    | with_reducible exact b_ord
    | with_reducible exact b_range
    | with_reducible exact b_sorted
    | with_reducible exact b_str
    | with_reducible exact g_big_endian
    | with_reducible exact g_check_tree
    | with_reducible exact g_diff_trees
    | with_reducible exact g_object_are_all
    | with_reducible exact g_object_by_eights
    | with_reducible exact g_object_has_sign
    | with_reducible exact g_object_name_fault
    | with_reducible exact g_object_octets
    | with_reducible exact g_octets_of
    | with_reducible exact g_tree_faults
    | with_reducible exact g_treediff_added
    | with_reducible exact g_treediff_beside
    | with_reducible exact g_treediff_entries
    | with_reducible exact g_treediff_folders
    | with_reducible exact g_treediff_gone
    | with_reducible exact g_treediff_is_alike
    | with_reducible exact g_treediff_joined
    | with_reducible exact g_treediff_kind
    | with_reducible exact g_treediff_order
    | with_reducible exact g_treediff_within
    | fail "no"
  k_with "m" => first
    | with_reducible exact m_108_digest
    | with_reducible exact m_314_sort_key
    | with_reducible exact m_314_octets
    | with_reducible exact m_363_octets
    | with_reducible exact m_525_keep
    | with_reducible exact m_525_write
    | with_reducible exact m_525_write_tree
    | with_reducible exact m_525_row_of
    | with_reducible exact m_525_of_kind
    | with_reducible exact m_525_tree
    | fail "no"
  k_with "sz" => first | (with_reducible assumption) | omega | (simp only [List.length_append, List.length_cons, List.length_nil, List.size_toArray]; omega) | (simp only [List.length_append, List.length_cons, List.length_nil, List.size_toArray] at *; omega) | fail "no"
  k_with "at" => first | (with_reducible exact St.at (by assumption) 0 rfl) | (with_reducible exact St.at (by assumption) 1 rfl) | (with_reducible exact St.at (by assumption) 2 rfl) | (with_reducible exact St.at (by assumption) 3 rfl) | (with_reducible exact St.at (by assumption) 4 rfl) | (with_reducible exact St.at (by assumption) 5 rfl) | (with_reducible exact St.at (by assumption) 6 rfl) | (exact (St.own (by assumption)).keep _ _ (by assumption)) | fail "no"
  k_with "df" => first | (with_reducible exact St.dict (by assumption) 0 rfl (by assumption)) | (with_reducible exact St.dict (by assumption) 1 rfl (by assumption)) | (with_reducible exact St.dict (by assumption) 2 rfl (by assumption)) | (with_reducible exact St.dict (by assumption) 3 rfl (by assumption)) | (with_reducible exact St.dict (by assumption) 4 rfl (by assumption)) | (with_reducible exact St.dict (by assumption) 5 rfl (by assumption)) | (with_reducible exact DF.sub (by assumption) (St.own (by assumption)).keep) | fail "no"
  k_with "fr" => first | exact rfl | assumption | (refine updN (by decide) ?_; first | exact rfl | assumption | (refine updN (by decide) ?_; first | exact rfl | assumption | (refine updN (by decide) ?_; first | exact rfl | assumption | (refine updN (by decide) ?_; first | exact rfl | assumption)))) | fail "no"
  k_with "sx" => first | ((try ((with_reducible refine zNx zA ?_); clear zA zB; (try clear zZ))); refine xExecsZ ?_; intro zZ zA zB) | fail "no"
  k_with "go" => repeat' (walk_at "go1")
  k_with "kr" => first | kernel_rfl! | (refine BindsTo.of_eq ?_; kernel_rfl!) | fail "no"
  k_with "go1" => first
    | ((with_reducible show wpAny _ _ (eval _ _) _ _ _); first
      | ((with_reducible show wpAny _ _ (eval (Expr.Name _ _) _) _ _ _); first | ((with_reducible refine' nL (by assumption) ?hv ?_); (case hv => walk_at "fr")) | ((with_reducible refine' nG (by assumption) (by assumption) ?hg ?_); (case hg => walk_at "g")) | ((with_reducible refine' nB (by assumption) (by assumption) ?hb ?_); (case hb => walk_at "g")))
      | (with_reducible refine xAttrN ?_)
      | (with_reducible refine xAttr ?_)
      | ((with_reducible show wpAny _ _ (eval (Expr.Constant ..) _) _ _ _); first
        | ((with_reducible refine conBy ?_); intro _ _)
        | ((with_reducible refine conInt ?_); intro _ _)
        | ((with_reducible refine conStr ?_); intro _ _)
        | (with_reducible refine wpAny_Constant_none ?_)
        | (with_reducible refine wpAny_Constant_bool ?_))
      | (with_reducible refine xMethod ?_)
      | (with_reducible refine xCall ?_)
      | (with_reducible refine xCut ?_)
      | (with_reducible refine Subscript_ ?_)
      | (with_reducible refine xCompare ?_)
      | (with_reducible refine wpAny_BinOp ?_)
      | (with_reducible refine Tuple_ ?_)
      | (with_reducible refine List_ ?_)
      | (with_reducible refine wpAny_IfExp ?_)
      | ((with_reducible refine' dNew (by assumption) (by assumption) ?_); intro _ _ _ _ _ _)
      | (with_reducible refine BoolOp_and ?_)
      | (with_reducible refine BoolOp_or ?_)
      | (with_reducible refine BoolOp_one ?_))
    | ((with_reducible show wpAny _ _ (callWith _ _ _ _ _) _ _ _); first
      | (with_reducible refine cBn ?_)
      | (with_reducible refine cB1 ?_)
      | (with_reducible refine cB01 ?_)
      | (with_reducible refine cT ?_)
      | ((with_reducible refine cGn ?hk ?_); (case hk => kernel_rfl!))
      | ((with_reducible refine cG1 ?hk ?_); (case hk => kernel_rfl!))
      | ((with_reducible refine cG01 (by assumption) (by assumption) ?hk ?_); (case hk => kernel_rfl!)))
    | ((with_reducible show wpAny _ _ (spliced _) _ _ _); first
      | (with_reducible refine xSplCons ?_)
      | (with_reducible refine xSplNil ?_))
    | ((with_reducible refine xExecsZ ?_); intro zZ zA zB)
    | (with_reducible refine wpAny_execs_nil ?_)
    | ((with_reducible show wpAny _ _ (exec _ _) _ _ _); first
      | (with_reducible refine xAssign ?_)
      | (with_reducible refine xAssignSub ?_)
      | (with_reducible refine xAssignAttr ?_)
      | (with_reducible refine xExpr ?_)
      | (with_reducible refine xIf ?_)
      | (with_reducible refine wpAny_Return_some ?_)
      | (with_reducible refine xFor ?_)
      | (with_reducible refine xWhile ?_)
      | (with_reducible refine wpAny_Continue ?_)
      | (with_reducible refine wpAny_Break ?_))
    | ((with_reducible show wpAny _ _ (PySem.isTrue _ _ _) _ _ _); first
      | (with_reducible refine xIsCompare ?_)
      | (with_reducible refine isTrue_and_nil ?_)
      | (with_reducible refine isTrue_and ?_)
      | (with_reducible refine isTrue_or_nil ?_)
      | (with_reducible refine isTrue_or ?_)
      | (with_reducible refine isTrue_not ?_)
      | (with_reducible refine isTrue_IfExp ?_)
      | (with_reducible refine xIsPlain ?_))
    | ((with_reducible show wpAny _ _ (compareOp _ _ _) _ _ _); first
      | (with_reducible refine eqB ?_)
      | (with_reducible refine neB ?_)
      | (with_reducible refine eqI ?_)
      | (with_reducible refine neI ?_)
      | (with_reducible refine gtI ?_)
      | (with_reducible refine geI ?_)
      | (with_reducible refine eqS ?_)
      | (with_reducible refine isNoneN ?_)
      | (with_reducible refine isNoneR ?_)
      | (with_reducible refine isNoneB ?_)
      | (with_reducible refine notNoneN ?_)
      | (with_reducible refine notNoneR ?_)
      | (with_reducible refine notNoneB ?_)
      | ((with_reducible refine' dIn ?hd ?_); (case hd => walk_at "df"); intro _)
      | ((with_reducible refine' dNotIn ?hd ?_); (case hd => walk_at "df"); intro _)
      | ((with_reducible refine byLe ?_); intro _))
    | ((with_reducible show wpAny _ _ (call _ _ _) _ _ _); first
      | ((with_reducible refine byStarts ?_); intro _)
      | ((with_reducible refine' byLower ?hz ?_); (case hz => walk_at "sz"); intro _ _)
      | ((with_reducible refine ordC ?_); intro _ _)
      | ((with_reducible refine byOfBy ?_); intro _)
      | ((with_reducible refine strI (by omega) ?_); intro _ _)
      | ((with_reducible refine' dLen ?hd ?hz ?_); (case hd => walk_at "df"); (case hz => walk_at "sz"); intro _ _)
      | ((with_reducible refine' lenB ?hz ?_); (case hz => walk_at "sz"); intro _ _))
    | ((with_reducible show wpAny _ _ (getMethod _ _ _) _ _ _); first
      | (with_reducible refine byMeth X.slot_bytes_lower X.type_bytes_lower ?_)
      | (with_reducible refine byMeth X.slot_bytes_find X.type_bytes_find ?_)
      | (with_reducible refine byMeth X.slot_bytes_split X.type_bytes_split ?_)
      | (with_reducible refine byMeth X.slot_bytes_join X.type_bytes_join ?_)
      | (with_reducible refine byMeth X.slot_bytes_startswith X.type_bytes_startswith ?_)
      | ((with_reducible refine' aM (by assumption) (by assumption) (by assumption) ?hf ?hv ?_); (case hf => walk_at "m"); (case hv => exact rfl))
      | ((with_reducible refine' lMeth ?hl PySem.F.slot_list_append PySem.F.type_list_append ?_); (case hl => walk_at "at"))
      | ((with_reducible refine' lMeth ?hl PySem.F.slot_list_extend PySem.F.type_list_extend ?_); (case hl => walk_at "at"))
      | ((with_reducible refine' lMeth ?hl PySem.F.slot_list_pop PySem.F.type_list_pop ?_); (case hl => walk_at "at")))
    | ((with_reducible show wpAny _ _ (getAttr _ _ _) _ _ _); first
      | ((with_reducible refine' aF (by assumption) (by assumption) (by assumption) ?hf ?hv ?hh ?_); (case hf => kernel_rfl!); (case hv => exact rfl); (case hh => exact rfl); intro _))
    | ((with_reducible show wpAny _ _ (binaryOp _ _ _) _ _ _); first
      | ((with_reducible refine addI ?_); intro _ _)
      | ((with_reducible refine andI ?_); intro _ _)
      | ((with_reducible refine modI (by decide) ?_); intro _ _)
      | ((with_reducible refine subI ?_); intro _ _)
      | ((with_reducible refine' addBy ?hz ?_); (case hz => walk_at "sz"); intro _ _))
    | (with_reducible refine testsNil ?_)
    | (with_reducible refine wpAny_bindName ?_)
    | (with_reducible refine wpAny_assign_Name ?_)
    | ((with_reducible refine sL (by assumption) ?_); intro _ _ _)
    | ((with_reducible refine' dItem ?hd ?hv ?_); (case hd => walk_at "df"); (case hv => assumption); intro _)
    | (with_reducible refine partN ?_)
    | (with_reducible refine partS ?_)
    | (with_reducible refine wpAny_truthy_bool ?_)
    | (with_reducible refine aOrd ?_)
    | (with_reducible refine aOrd0 ?_)
    | ((with_reducible refine' lNew (by assumption) ?hz ?_); (case hz => walk_at "sz"); intro _ _ _ _)
    | ((with_reducible refine' tNew (by assumption) ?hz ?_); (case hz => walk_at "sz"); intro _ _ _ _)
    | (with_reducible refine ifT ?_)
    | (with_reducible refine ifF ?_)
    | ((with_reducible refine zNx zA ?_); clear zA zB; (try clear zZ))
    | ((with_reducible refine zOut zB (by kernel_rfl!) ?_); clear zA zB; (try clear zZ))
    | (with_reducible refine zEnd (by assumption) ?_)
    | (with_reducible refine zRet (by assumption) ?_)
    | (with_reducible refine kin (by assumption) (by assumption) ?_)
    | fail "no"
  trivial
-- F28
section
section
variable {prog : Program} {w : World} {mg mb : Str → Option Value} {p : Program} {loose : List Str} {A : Around} {E : Value → Shared → Prop}
  {g h : Heap} {mu : List (Addr × Obj)} {gs : Array GenState} {dr : Drawn} {tk : Nat} {os : OsState}
theorem pickUpto {vs : List Value} {y : Nat} : slicePick vs.toArray none (some (y : Int)) none = (vs.take y).toArray := by
  have e : sliceBounds none (some (y : Int)) none vs.toArray.size = (((0 : Nat) : Int), ((min y vs.toArray.size : Nat) : Int), 1) := by
    simp only [sliceBounds, Option.getD_none, show (1 : Int) > 0 by decide, if_true, if_neg (show ¬ ((y : Int) < 0) by omega)]
    congr 1
    congr 1
    omega
  rw [kmk_pick_nat _ e, List.drop_zero, Nat.sub_zero]
  show ((vs.take (min y vs.toArray.size))).toArray = _
  rw [List.size_toArray, kmk_take_min]
theorem pickButLast {vs : List Value} : slicePick vs.toArray none (some (-1)) none = vs.dropLast.toArray := by
  have e : sliceBounds none (some (-1)) none vs.toArray.size = (((0 : Nat) : Int), ((vs.toArray.size - 1 : Nat) : Int), 1) := by
    simp only [sliceBounds, Option.getD_none, show (1 : Int) > 0 by decide, if_true, if_pos (show (-1 : Int) < 0 by decide)]
    congr 1
    congr 1
    omega
  rw [kmk_pick_nat _ e, List.drop_zero, Nat.sub_zero]
  show ((vs.take (vs.toArray.size - 1))).toArray = _
  rw [List.size_toArray, List.dropLast_eq_take]
theorem lCut {gE hE g h : Heap} {S' : List Addr} {L : Addr} {m : Str → Option Value} {mu : List (Addr × Obj)} {value slice : PySem.Expr} {l : Addr} {its out : List Value} {lv uv : Value} {lo hi : Option Int} {Q : Value → Shared → Prop} (st : St gE hE S' g L m mu h) (hl : h.IsList l its.toArray) (pl : IsPart lv lo) (pu : IsPart uv hi) (hz : its.length ≤ 100000)
    (he : slicePick its.toArray lo hi none = out.toArray) (hq : ∀ D h', hE.objs.size ≤ D → St gE hE S' g L m ((D, lst out.toArray 0) :: mu) h' → Q (.ref D) ⟨h', gs, dr, tk, os⟩)
    (hs : subscripted slice false (.ref l) (.ref h.objs.size) = operate [.ref h.objs.size, .ref l] (getItem (.ref l) (.ref h.objs.size)) := by kernel_rfl) :
    wpAny (model prog w) A (subscriptTail value slice (.ref l) (.ref h.objs.size)) Q E ⟨h.push { cls := .type "slice", data := .fields #[lv, uv, .none] }, gs, dr, tk, os⟩ := by
  have st1 := st.grow' (h' := h.push { cls := .type "slice", data := .fields #[lv, uv, .none] }) fun b o e => Heap.get?_push_of_some _ e
  have hl1 : (h.push { cls := .type "slice", data := .fields #[lv, uv, .none] }).IsList l its.toArray := hl.at fun o e => Heap.get?_push_of_some _ e
  refine tail_any (s := ⟨h.push { cls := .type "slice", data := .fields #[lv, uv, .none] }, gs, dr, tk, os⟩) (T := "list") hl1.typeIs PySem.F.slot_list_getitem.lookup
    (wpAny_getItem_list_slice (s := ⟨h.push { cls := .type "slice", data := .fields #[lv, uv, .none] }, gs, dr, tk, os⟩) hl1 (Heap.IsSliceOf.new _ _ _ _) pl pu .none (by simp) ?_ (by simp; unfold sizeLine; omega)) hs
  rw [he]
  exact hq _ _ st1.step.size (st1.new _)
/-- o is a dict of texts, and stands at d -/
noncomputable def DS (prog : Program) (w : World) (d : Addr) (o : Obj) (kvs : List (Str × Value)) : Prop := (d == sysModules) = false ∧ o.IsDictOf (PySem.strKind prog w) kvs
structure Deck (prog : Program) (w : World) (dk l : Addr) (oD : Obj) (its : List Value) : Prop where
  ex : ∃ mx t, DS prog w dk oD [("left", .ref l), ("mixed", .int mx t)] ∧ 0 ≤ mx ∧ mx < 1000003
  is : ∃ ns, IntsAre its ns
  z : its.length ≤ 63
theorem fmod_in {a b : Int} (hb : 0 < b) : 0 ≤ a.fmod b ∧ a.fmod b < b := by
  rw [Int.fmod_eq_emod_of_nonneg _ (by omega)]
  exact ⟨Int.emod_nonneg _ (by omega), Int.emod_lt_of_pos _ hb⟩
theorem St.thaw {gE hE g g' h : Heap} {S' : List Addr} {L D : Addr} {o : Obj} {m : Str → Option Value} {mu : List (Addr × Obj)} (st : St gE hE S' g' L m mu h) (sg : Sub g g') (hD : g'.get? D = some o) (he : ∀ b, b ≠ D → g'.get? b = g.get? b) (hn : g.get? D = none) (hd : hE.objs.size ≤ D) (hsub : Sub gE g) : St gE hE S' g L m ((D, o) :: mu) h := by
  have none' : ∀ b, g'.get? b = none → g.get? b = none := fun b e => by
    cases q : g.get? b with
    | none => rfl
    | some x => rw [sg _ _ q] at e; cases e
  have neD : ∀ p ∈ mu, p.1 ≠ D := fun p hp e => by have := (st.own.mem p hp).2; rw [e, hD] at this; cases this
  refine ⟨⟨sg.trans st.own.keep, fun p hp => ?_, ?_⟩, ⟨hsub, fun b q => ?_, st.step.frame, st.step.size⟩, st.ns, none' _ st.gl, st.lo, fun p hp => ?_⟩
  · rcases List.mem_cons.mp hp with rfl | hp
    · exact ⟨st.own.keep _ _ hD, hn⟩
    · exact ⟨(st.own.mem p hp).1, none' _ (st.own.mem p hp).2⟩
  · rw [List.map_cons, List.nodup_cons]
    refine ⟨fun q => ?_, st.own.nd⟩
    obtain ⟨p, hp, e⟩ := List.mem_map.mp q
    exact neD p hp e
  · have q : b < hE.objs.size := q
    rw [← he b (fun e => absurd q (Nat.not_lt.mpr (by rw [e]; exact hd)))]; exact st.step.old b q
  · rcases List.mem_cons.mp hp with rfl | hp
    · exact ⟨fun e => (by have := st.gl; rw [← e, hD] at this; cases this), .inr hd⟩
    · exact st.ml p hp
set_option maxHeartbeats 2000000 in
theorem deck_spec {sc : Addr} {vs : List Value} {ns : List Int} {Q : Value → Shared → Prop} {n : Nat} (C : Cx w mg mb p loose g) (k : Sub g h) (rm : Rm A (n + 2)) (hl : g.IsList sc vs.toArray) (hi : IntsAre vs ns) (hz : ns.length ≤ 63)
    (ret : ∀ dk l oD its nl h' tk', Step [] g h g h' → Own g h' [(dk, oD), (l, lst its.toArray nl)] → Deck prog w dk l oD its → h.objs.size ≤ dk → h.objs.size ≤ l → Q (.ref dk) ⟨h', gs, dr, tk', os⟩) :
    wpAny (model prog w) A (call (.ref 534) [.ref sc]) Q E ⟨h, gs, dr, tk, os⟩ := by
  refine wpAny_call ?_
  refine enter (f := 534) (fd := fdOf w 534) (body := bodyOf w 534) (binds := [("script", .ref sc)]) C (Own.nil k) rm (oc := .type "function") (od := none) (osl := #[]) ?a ?b ?c ?d ?e ?walk ?f ?g ?i ?j
  case walk =>
    intro E h₁ tk₁ rm st Z0 z0
    walk_at "sx"
    with_reducible refine Assign_Tuple_swapped (names := ["left", "mixed"]) ?_ (by kernel_rfl!) (by kernel_rfl!)
    refine Tuple_ ?_
    refine xSplCons ?_
    refine evComp (cl := []) ?clos ?kind ?names ?fs ?main
    case main =>
      walk_at "go"
      refine lCut (its := vs) (out := vs.take 20) st (hl.at fun o e => st.own.keep sc o e) .none (.int _ _) (by rw [hi.length]; omega) (pickUpto (y := 20)) fun D0 h' hD0 st => ?_
      refine st.freezeC hD0 fun g₂ sg2 hg2 st => ?_
      refine compI (cl := []) none (Iter.list rm.hh (isl hg2)) ?hn ?hcell ?hkind ?hL ?huse st (fun i g' ys mu' => g' = g₂ ∧ mu' = [] ∧ ∃ ks, IntsAre ys ks) ⟨rfl, rfl, [], .nil⟩ ?turn ?done ?ht
      case ht => intro I v; rfl
      case hn =>
        have := hi.length
        simp
        unfold sizeLine
        omega
      case turn =>
        intro h₀ S₀ C' D' I i v g₄ h₄ m₄ mu₄ tk₄ oI₀ oI ys na E hi' hp' zj sg4 hl' fr st₀ hS st₄ Z Zn zn zs
        obtain ⟨rfl, rfl, ks, hys⟩ := zj
        have C := C.sub sg2
        obtain ⟨z, tz, _, rfl⟩ := ints_get (hi.take 20) (by simpa using hp')
        walk_at "go"
        refine call_int_int ?_
        walk_at "go"
        exact zn _ g₄ _ _ _ _ Sub.rfl ‹_› ⟨rfl, rfl, _, hys.append (.cons _ _ .nil)⟩
      case done =>
        rintro D g₁ h₁ mu₁ tk₁ ys na ⟨rfl, rfl, ks, hys⟩ sg hl' hD st
        have C := C.sub sg2
        have hyl : ys.length ≤ 20 := by
          have : ys.length ≤ (vs.take 20).toArray.size := hl'
          simp at this
          omega
        walk_at "go"
        rename_i tu _ htu st
        refine uTup st rm.hh (st.at 0 rfl) rfl fun h' st => ?_
        have st := st.sub (List.sublist_cons_self _ _)
        refine aSw (n := "mixed") (ns := ["left"]) (xs := [.ref D]) ?_
        walk_at "go"
        refine aSw ?_
        walk_at "go"
        refine aSw0 ?_
        walk_at "go"
        obtain st : St _ _ _ _ _ _ [(D, lst ys.toArray na)] _ := by assumption
        have hnD := (st.own.mem _ (.head _)).2
        have hsub := st.step.sub
        obtain ⟨g₃, sg3, hgD, heD, st⟩ := st.freeze hD
        have C := C.sub sg3
        refine forI (Iter.list rm.hh (isl hgD)) st (fun i g' m' mu' => g' = g₃ ∧ mu' = [] ∧ m' "left" = some (.ref D) ∧ ∃ mx t, m' "mixed" = some (.int mx t) ∧ 0 ≤ mx ∧ mx < 1000003) ⟨rfl, rfl, by walk_at "fr", 9393, _, by walk_at "fr", by decide, by decide⟩ ?turn2 ?done2 ?ht2
        case ht2 => intro I v; rfl
        case turn2 =>
          intro i v I g₅ h₅ m₅ mu₅ tk₅ oI E hi5 hp5 zj sg5 st Z zn zb zr
          obtain ⟨rfl, rfl, f1, mx, tm, f2, b1, b2⟩ := zj
          obtain ⟨z, tz, _, rfl⟩ := ints_get hys (by simpa using hp5)
          walk_at "go"
          refine mulI (by omega) fun _ _ => ?_
          walk_at "go"
          obtain st : St _ _ _ _ _ _ _ _ := by assumption
          have := fmod_in (a := mx * 31 + z + 1) (b := 1000003) (by decide)
          exact zn _ g₅ _ _ _ _ rfl Sub.rfl st ⟨rfl, rfl, by walk_at "fr", _, _, by walk_at "fr", this.1, this.2⟩
        case done2 =>
          rintro g₅ h₅ m₅ mu₅ tk₅ ⟨rfl, rfl, f1, mx, tm, f2, b1, b2⟩ sg5 st
          (try dsimp only)
          walk_at "sx"
          refine wpAny_Return_some ?_
          with_reducible refine' wpAny_Dict_walk (knd := PySem.strKind prog w) ?da ?db ?dc ?dd ?_
          case da => rfl
          case db => rfl
          case dc => decide
          case dd => decide
          have hk5 := st.step.size
          have hbig := C.big st.own.keep
          have st := st.new { cls := .type "dict", data := .dict #[] }
          refine pairTrees_cons_walk ?_
          walk_at "go"
          refine pairTrees_cons_walk ?_
          walk_at "go"
          refine pairTrees_nil_walk ?_
          refine ⟨[("left", .ref D), ("mixed", .int mx tm)], ⟨strKind_is _ _ _ _, rfl, strKind_is _ _ _ _, rfl, trivial⟩, Heap.DictOf.new _, fun h' hd hs => ?_⟩
          obtain ⟨o', ho', hd'⟩ := Heap.dictOf_iff.mp hd
          have st := st.upd 0 rfl hs ho'
          have st := st.perm (mu' := [(h₅.objs.size, o')]) (.refl _)
          have st := (st.thaw sg3 hgD heD hnD hD hsub).perm (mu' := [(h₅.objs.size, o'), (D, lst ys.toArray na)]) (.swap ..)
          walk_at "go"
          exact ret h₅.objs.size D o' ys na _ _ st.step.drop (st.own.drop sg2) ⟨⟨mx, tm, ⟨hbig, hd'⟩, b1, b2⟩, ⟨ks, hys⟩, by omega⟩ hk5 hD
      all_goals kernel_rfl!
    case names => decide
    case fs => intro x; kernel_rfl!
    all_goals kernel_rfl!
  all_goals walk_at "kr"
end
end
-- F29
section
section
variable {prog : Program} {w : World} {mg mb : Str → Option Value} {p : Program} {loose : List Str} {A : Around} {E : Value → Shared → Prop}
  {g h : Heap} {mu : List (Addr × Obj)} {gs : Array GenState} {dr : Drawn} {tk : Nat} {os : OsState}
theorem sItem {value slice : PySem.Expr} {d : Addr} {o : Obj} {kvs : List (Str × Value)} {k : Str} {t : Tok} {v : Value} {Q : Value → Shared → Prop} (hd : h.get? d = some o) (D : DS prog w d o kvs) (hv : valueAt kvs k = some v) (hq : ∀ tk', Q v ⟨h, gs, dr, tk', os⟩)
    (hs : subscripted slice false (.ref d) (.str k t) = operate [.ref d, .str k t] (getItem (.ref d) (.str k t)) := by kernel_rfl) : wpAny (model prog w) A (subscriptTail value slice (.ref d) (.str k t)) Q E ⟨h, gs, dr, tk, os⟩ := by
  have D' : h.DictOf (PySem.strKind prog w) d kvs := Heap.dictOf_iff.mpr ⟨o, hd, D.2⟩
  exact tail_any (s := ⟨h, gs, dr, tk, os⟩) D'.mapOf.typeIs slot_dict_getitem.lookup (wpAny_getItem_of (s := ⟨h, gs, dr, tk, os⟩) (knd := PySem.strKind prog w) (strKind_is _ _ _ _) D'.mapOf hv (hq _)) hs
theorem sSet {gE hE g h : Heap} {S' : List Addr} {L d : Addr} {m : Str → Option Value} {mu : List (Addr × Obj)} {kvs : List (Str × Value)} {k : Str} {t : Tok} {Q : Unit → Shared → Prop} {o : Obj} {v : Value} (st : St gE hE S' g L m mu h) (i : Nat) (hi : mu[i]? = some (d, o)) (D : DS prog w d o kvs) (hz : kvs.length ≤ 1000000)
    (hq : ∀ h' o' tk', DS prog w d o' (stored kvs k v) → St gE hE S' g L m (mu.set i (d, o')) h' → Q () ⟨h', gs, dr, tk', os⟩) : wpAny (model prog w) A (setItem (.ref d) (.str k t) v) Q E ⟨h, gs, dr, tk, os⟩ := by
  refine wpAny_setItem_pairs (s := ⟨h, gs, dr, tk, os⟩) (knd := PySem.strKind prog w) (strKind_is _ _ _ _) (Heap.dictOf_iff.mpr ⟨o, st.at i hi, D.2⟩) (fun h' hd hs => ?_) (by unfold sizeLine; omega)
  obtain ⟨o', ho', r⟩ := Heap.dictOf_iff.mp hd
  exact hq h' o' _ ⟨D.1, r⟩ (st.upd i hi hs ho')
theorem draw_spec {dk l : Addr} {oD : Obj} {its : List Value} {nl : Nat} {many : Int} {u : Tok} {Q : Value → Shared → Prop} {n : Nat} (C : Cx w mg mb p loose g) (ow : Own g h [(dk, oD), (l, lst its.toArray nl)]) (rm : Rm A (n + 2)) (Dk : Deck prog w dk l oD its) (hm : many ≠ 0)
    (ret : ∀ z t' oD' its' nl' h' tk', Step [dk, l] g h g h' → Own g h' [(dk, oD'), (l, lst its'.toArray nl')] → Deck prog w dk l oD' its' → Q (.int z t') ⟨h', gs, dr, tk', os⟩) :
    wpAny (model prog w) A (call (.ref 541) [.ref dk, .int many u]) Q E ⟨h, gs, dr, tk, os⟩ := by
  obtain ⟨⟨mx, tm, D, b1, b2⟩, ⟨ks, hks⟩, hz⟩ := Dk
  refine wpAny_call ?_
  refine enter (f := 541) (fd := fdOf w 541) (body := bodyOf w 541) (binds := [("deck", .ref dk), ("many", .int many u)]) C ow rm (oc := .type "function") (od := none) (osl := #[]) ?a ?b ?c ?d ?e ?walk ?f ?g ?i ?j
  case walk =>
    intro E h₁ tk₁ rm st Z0 z0
    walk_at "sx"
    walk_at "go"
    refine sItem (st.at 0 rfl) D rfl fun _ => ?_
    walk_at "go"
    rename_i e0 _ he0 st
    refine neNil (vs := its) (by have := rm.u; unfold cLine; omega) (st.at 2 rfl) (st.at 0 rfl) ?_
    have st := st.sub (List.sublist_cons_self _ _)
    walk_at "go"
    have key : its = [] ∨ ∃ z tz vs, its = .int z tz :: vs ∧ ∃ ns, IntsAre vs ns := by
      cases hks with
      | nil => exact .inl rfl
      | cons z tz r => exact .inr ⟨z, tz, _, rfl, _, r⟩
    rcases key with rfl | ⟨z, tz, vs, rfl, ns, r⟩
    · first | ((with_reducible refine ifN ?hc ?_); (case hc => exact (by decide))) | rw [if_neg (by decide)]
      walk_at "go"
      refine sItem (st.at 0 rfl) D rfl fun _ => ?_
      walk_at "go"
      refine mulI (by omega) fun _ _ => ?_
      walk_at "go"
      have hb := fmod_in (a := mx * 4801 + 97) (b := 1000003) (by decide)
      refine sSet st 0 rfl D (by simp) fun h' oD' tk' D' st => ?_
      walk_at "go"
      refine sItem (st.at 0 rfl) D' rfl fun _ => ?_
      walk_at "go"
      refine fdivI (by decide) (by omega) (by decide) fun _ _ => ?_
      walk_at "go"
      refine modI hm fun _ _ => ?_
      walk_at "go"
      exact ret _ _ oD' [] nl _ _ st.step st.own ⟨⟨_, _, D', hb.1, hb.2⟩, ⟨[], .nil⟩, by simp⟩
    · first | ((with_reducible refine ifP ?hc ?_); (case hc => exact (by rfl))) | rw [if_pos (by rfl)]
      walk_at "go"
      refine sItem (st.at 0 rfl) D rfl fun _ => ?_
      walk_at "go"
      refine lPop0 st 1 rfl (by simp at hz; omega) fun h' n' st => ?_
      walk_at "go"
      refine modI hm fun _ _ => ?_
      walk_at "go"
      exact ret _ _ oD vs n' _ _ st.step st.own ⟨⟨mx, tm, D, b1, b2⟩, ⟨_, r⟩, by simp at hz; omega⟩
  all_goals walk_at "kr"
end
end
-- F31
section
section
variable {prog : Program} {w : World} {mg mb : Str → Option Value} {p : Program} {loose : List Str} {A : Around} {E : Value → Shared → Prop}
  {g h : Heap} {mu : List (Addr × Obj)} {gs : Array GenState} {dr : Drawn} {tk : Nat} {os : OsState}
theorem ChOk.sz {n1 n2 : List (BY × BY)} {c : Ch} (K : ChOk n1 n2 c) : SzOk c := by
  obtain ⟨f, hf, n, hn, _, h1, h2, _⟩ := K.ex
  have hl : (joined f n).length ≤ 100 := by
    rw [joined_pfx, List.length_append]
    have := (fPfx hf).2.1
    have := (fFile hf hn).1.2
    omega
  exact ⟨fun s e => by rw [h1 s e]; exact hl, fun s e => by rw [h2 s e]; exact hl⟩
theorem ChOk.noTouch {n1 n2 : List (BY × BY)} {cs : List Ch} (K : ∀ c ∈ cs, ChOk n1 n2 c) {z : BY} (hz : z ∈ FsL) (he : n1.lookup z = n2.lookup z) : cs.filter (touchB z) = [] := by
  rw [List.filter_eq_nil_iff]
  intro c hc q
  obtain ⟨f, hf, n, hn, hp, h1, h2, h3⟩ := (K c hc).ex
  have key : touchP z (joined f n) = true := by
    unfold touchB at q
    rw [Bool.or_eq_true, Bool.or_eq_true] at q
    rcases q with (q | q) | q
    · unfold touchP; rw [q]; rfl
    · cases e : c.opath with
      | none => rw [e] at q; cases q
      | some s => rw [e] at q; rw [← h1 s e]; exact q
    · cases e : c.npath with
      | none => rw [e] at q; cases q
      | some s => rw [e] at q; rw [← h2 s e]; exact q
  exact h3 z hz (fTouch hf hn hz key) he
noncomputable def chR : Ch := ⟨"R", some [49, 49, 49, 49], some [98, 47, 100, 47, 122], some [49, 49, 49, 49], some [113, 47, 122]⟩
theorem chR_sz : SzOk chR := ⟨fun s e => by cases e; decide, fun s e => by cases e; decide⟩
theorem here_len' {f : BY} (hf : f ∈ FsL) : f.length ≤ 100 := Nat.le_trans (here_len hf) (by decide)
noncomputable def lwIn1 (w : World) : List Stmt := match (bodyOf w 563).drop 9 with
  | .For _ _ b _ _ :: _ => b
  | _ => []
set_option maxHeartbeats 4000000 in
theorem law_turn1 {gE hE g h : Heap} {S' : List Addr} {m : Str → Option Value} {L0 cl I Lc : Addr} {oC oI oT : Obj} {pa : BY} {tp : Tok} {vsC : List Value} {cs : List Ch} {nlc n : Nat} {Q : Flow → Shared → Prop} {body : List Stmt}
    (hbody : body = lwIn1 w) (hcl : L0 + 1 = cl) (C : Cx w mg mb p loose g) (rm : Rm A (n + 12)) (hc : oC.data = .cell (some (.bytes pa.toArray tp))) (hpa : pa.length ≤ 100) (hgc : g.get? Lc = some (lst vsC.toArray nlc)) (vall : All2 (IsCh g) vsC cs) (sz : ∀ c ∈ cs, SzOk c) (cz : cs.length ≤ 7)
    (st : St gE hE S' g L0 m [(I, oI), (cl, oC), (543, oT)] h) (m1 : m "changes" = some (.ref Lc))
    (post : ∀ g' h' m' tk', Sub g g' → St gE hE S' g' L0 m' [(I, oI), (cl, oC), (543, oT)] h' → (∀ x : Str, x ≠ "due" → m' x = m x) → Q .next ⟨h', gs, dr, tk', os⟩) :
    wpAny (model prog w) A (execs body (callEnvC (fdOf w 563) L0 563)) Q E ⟨h, gs, dr, tk, os⟩ := by
  subst hbody
  have hu : A.units + 40 < cLine := by have := rm.u; unfold cLine; omega
  have vlen := vall.length
  walk_at "sx"
  refine exComp (cl := [("path", cl)]) ?sw ?clos ?kind ?names ?fs ?main
  case clos => rw [← hcl]; kernel_rfl
  case main =>
    walk_at "go"
    refine compI (cl := [("path", cl)]) (some _) (Iter.list rm.hh (isl hgc)) ?hn ?hcell ?hkind ?hL ?huse st (fun i g' ys mu' => mu' = [(I, oI), (cl, oC), (543, oT)] ∧ All2 (IsLRow g') ys ((cs.take i).filter (touchB pa))) ⟨rfl, .nil⟩ ?turn ?done ?ht
    case ht => intro I v; rfl
    case hn => rw [List.size_toArray]; unfold sizeLine; omega
    case turn =>
      intro h₀ S₀ C' D' I' i v g₇ h₇ m₇ mu₇ tk₇ oI₀ oI' ys na E hi hp' zj sg7 hl' fr st₀ hS st Z Zn zn zs
      obtain ⟨rfl, hys⟩ := zj
      obtain ⟨c, hcc, Ic⟩ := vall.get' (by simpa using hp')
      have C := C.sub sg7
      have htk : (cs.take (i + 1)).filter (touchB pa) = (cs.take i).filter (touchB pa) ++ (if touchB pa c = true then [c] else []) := by
        rw [List.take_add_one, hcc, List.filter_append]
        congr 1
        by_cases q : touchB pa c = true
        · rw [if_pos q]; simp [q]
        · rw [if_neg q]; simp [q]
      walk_at "go"
      refine testsOne ?_
      walk_at "go"
      obtain st : St _ _ _ _ _ _ _ _ := by assumption
      refine nC (st.at 3 rfl) hc ?_
      walk_at "go"
      refine touches_spec (n := n + 10) C (by assumption : St _ _ _ _ _ _ _ _).own.keep rm (Ic.sub sg7) hpa (sz c (List.mem_of_getElem? hcc)) fun h' tk' sp ow => ?_
      obtain st : St _ _ _ _ _ _ _ _ := by assumption
      have st := st.call (mu₁ := []) sp ow rfl
      walk_at "go"
      by_cases q : touchB pa c = true
      · first | ((with_reducible refine ifP ?hc ?_); (case hc => exact q)) | rw [if_pos q]
        walk_at "go"
        refine row_spec (n := n + 11) C (by assumption : St _ _ _ _ _ _ _ _).own.keep rm (Ic.sub sg7) fun x g₈ h' tk' sp ow Rx => ?_
        obtain st : St _ _ _ _ _ _ _ _ := by assumption
        have st := st.call (mu₁ := []) sp ow rfl
        refine zn _ g₈ h' _ _ _ sp.sub st ⟨rfl, ?_⟩
        rw [htk, if_pos q]
        exact (hys.mono fun _ _ q => q.sub sp.sub).snoc Rx
      · first | ((with_reducible refine ifN ?hc ?_); (case hc => exact q)) | rw [if_neg q]
        refine zs g₇ _ _ _ _ Sub.rfl st ⟨rfl, ?_⟩
        rw [htk, if_neg q, List.append_nil]
        exact hys
    case done =>
      rintro Ld g₇ h₇ mu₇ tk₇ ysD na ⟨rfl, hysD⟩ sg7 hl' hLd st
      rw [List.take_of_length_le (by rw [List.size_toArray]; omega)] at hysD
      refine st.freezeC hLd fun g₈ sg8 hgd st => ?_
      have C := C.sub (sg7.trans sg8)
      have vall := vall.mono fun _ _ q => IsCh.sub q (sg7.trans sg8)
      have hgc := (sg7.trans sg8) _ _ hgc
      (try dsimp only)
      walk_at "sx"
      refine xIf ?_
      refine xIsCompare ?_
      refine evComp (cl := []) ?clos2 ?kind2 ?names2 ?fs2 ?main2
      case main2 =>
        walk_at "go"
        obtain st : St _ _ _ _ _ _ _ _ := by assumption
        refine nC (st.at 1 rfl) hc ?_ (cellAt (by kernel_rfl) hcl)
        walk_at "go"
        refine within_spec (n := n + 10) C (by assumption : St _ _ _ _ _ _ _ _).own.keep rm hgc vall (by omega) hpa sz fun D6 g₉ h' tk' vs6 nl6 sp ow hD6 v6 => ?_
        obtain st : St _ _ _ _ _ _ _ _ := by assumption
        have st := st.call (mu₁ := []) sp ow rfl
        have C := C.sub sp.sub
        have v6l : vs6.length ≤ 7 := by rw [v6.length]; exact Nat.le_trans (List.length_filter_le _ _) cz
        walk_at "go"
        refine compI (cl := []) none (Iter.list rm.hh (isl hD6)) ?hn2 ?hcell2 ?hkind2 ?hL2 ?huse2 st (fun i g' ys mu' => mu' = [(I, oI), (cl, oC), (543, oT)] ∧ All2 (IsLRow g') ys ((cs.filter (touchB pa)).take i)) ⟨rfl, .nil⟩ ?turn2 ?done2 ?ht2
        case ht2 => intro I v; rfl
        case hn2 => rw [List.size_toArray]; unfold sizeLine; omega
        case turn2 =>
          intro h₀ S₀ C' D' I' i v g₁₀ h₁₀ m₁₀ mu₁₀ tk₁₀ oI₀ oI' ys na E hi hp' zj sg10 hl' fr st₀ hS st Z Zn zn zs
          obtain ⟨rfl, hys⟩ := zj
          obtain ⟨c, hcc, Ic⟩ := v6.get' (by simpa using hp')
          have C := C.sub sg10
          walk_at "go"
          refine row_spec (n := n + 11) C (by assumption : St _ _ _ _ _ _ _ _).own.keep rm (Ic.sub sg10) fun x g₁₁ h' tk' sp ow Rx => ?_
          obtain st : St _ _ _ _ _ _ _ _ := by assumption
          have st := st.call (mu₁ := []) sp ow rfl
          refine zn _ g₁₁ h' _ _ _ sp.sub st ⟨rfl, ?_⟩
          rw [List.take_add_one, hcc]
          exact (hys.mono fun _ _ q => q.sub sp.sub).snoc Rx
        case done2 =>
          rintro Lr g₁₀ h₁₀ mu₁₀ tk₁₀ ysR naR ⟨rfl, hysR⟩ sg10 hl' hLr st
          rw [List.take_of_length_le (by rw [List.size_toArray, v6.length]; exact Nat.le_refl _)] at hysR
          walk_at "go"
          refine rows_ne (cs := cs.filter (touchB pa)) (by omega) (st.at 0 rfl) (st.own.keep _ _ (sg10 _ _ (sp.sub _ _ hgd))) (hysR.mono fun _ _ q => IsLRow.sub q st.own.keep) (hysD.mono fun _ _ q => IsLRow.sub q (((sg8.trans sp.sub).trans sg10).trans st.own.keep)) ?_
          walk_at "go"
          exact post g₁₀ h₁₀ _ _ (((sg7.trans sg8).trans sp.sub).trans sg10) (st.sub (List.sublist_cons_self _ _)) fun x hx => if_neg hx
        all_goals kernel_rfl!
      case names2 => decide
      case fs2 => intro x; kernel_rfl!
      all_goals kernel_rfl!
    all_goals kernel_rfl!
  case names => decide
  case fs => intro x; kernel_rfl!
  all_goals kernel_rfl!

noncomputable def lwIn2 (w : World) : List Stmt := match (bodyOf w 563).drop 10 with
  | .For _ _ b _ _ :: _ => b
  | _ => []
set_option maxHeartbeats 4000000 in
theorem law_turn2 {gE hE g h : Heap} {S' : List Addr} {m : Str → Option Value} {L0 cl I Lc ip op : Addr} {oC oI oT : Obj} {pa b1 : BY} {tp tb : Tok} {vsD : List Value} {cs : List Ch} {vR : Value} {nlc n : Nat} {Q : Flow → Shared → Prop} {body : List Stmt} {n1 n2 : List (BY × BY)} {kv1 kv2 : List (BY × Value)}
    (hbody : body = lwIn2 w) (hcl : L0 + 1 = cl) (C : Cx w mg mb p loose g) (rm : Rm A (n + 12)) (hc : oC.data = .cell (some (.bytes pa.toArray tp))) (hpa : pa ∈ FsL) (hgc : g.get? Lc = some (lst (vsD ++ [vR]).toArray nlc)) (vall : All2 (IsCh g) vsD cs) (co : ∀ c ∈ cs, ChOk n1 n2 c) (cz : cs.length ≤ 7)
    (DI1 : DF prog w g ip kv1) (DI2 : DF prog w g op kv2) (hv1 : valueAt kv1 pa = some (.bytes b1.toArray tb)) (hl1 : n1.lookup pa = some b1) (hv2 : OB ((valueAt kv2 pa).getD .none) (n2.lookup pa))
    (st : St gE hE S' g L0 m [(I, oI), (cl, oC), (543, oT)] h) (m1 : m "changes" = some (.ref Lc)) (m2 : m "ids" = some (.ref ip)) (m3 : m "others" = some (.ref op))
    (post : ∀ g' h' tk', Sub g g' → St gE hE S' g' L0 m [(I, oI), (cl, oC), (543, oT)] h' → Q .next ⟨h', gs, dr, tk', os⟩) :
    wpAny (model prog w) A (execs body (callEnvC (fdOf w 563) L0 563)) Q E ⟨h, gs, dr, tk, os⟩ := by
  subst hbody
  have hu : A.units + 40 < cLine := by have := rm.u; unfold cLine; omega
  have vlen := vall.length
  have hpl := here_len' hpa
  walk_at "sx"
  walk_at "go"
  refine dGetM (DI2.sub st.own.keep) ?_
  walk_at "go"
  refine nC (st.at 1 rfl) hc ?_ (cellAt (by kernel_rfl) hcl)
  walk_at "go"
  refine dGet (DI2.sub st.own.keep) fun _ => ?_
  walk_at "go"
  refine nC (st.at 1 rfl) hc ?_ (cellAt (by kernel_rfl) hcl)
  walk_at "go"
  refine eqOB hv2 (.some b1 tb) ?_
  walk_at "go"
  by_cases e : n2.lookup pa = some b1
  · first | ((with_reducible refine ifP ?hc ?_); (case hc => exact (by simpa using e))) | rw [if_pos (by simpa using e)]
    walk_at "go"
    refine UnaryOp_ ?_
    walk_at "go"
    refine neg_int ?_
    refine lCut (its := vsD ++ [vR]) (out := vsD) st ((isl hgc).at fun o e => st.own.keep Lc o e) .none (.int _ _) (by simp; omega) (by rw [pickButLast, List.dropLast_concat]) fun L2 h' hL2 st => ?_
    refine st.freezeC hL2 fun g₂ sg2 hg2 st => ?_
    have C := C.sub sg2
    walk_at "go"
    refine nC (st.at 1 rfl) hc ?_ (cellAt (by kernel_rfl) hcl)
    walk_at "go"
    refine within_spec (n := n + 10) C (by assumption : St _ _ _ _ _ _ _ _).own.keep rm hg2 (vall.mono fun _ _ q => IsCh.sub q sg2) (by omega) hpl (fun c hc => (co c hc).sz) fun D6 g₉ h' tk' vs6 nl6 sp ow hD6 v6 => ?_
    obtain st : St _ _ _ _ _ _ _ _ := by assumption
    have st := st.call (mu₁ := []) sp ow rfl
    rw [ChOk.noTouch co hpa (hl1.trans e.symm)] at v6
    have : vs6 = [] := by cases v6; rfl
    subst this
    walk_at "go"
    rename_i D7 _ hD7 st
    refine neNil (vs := []) (by omega) (st.own.keep _ _ hD6) (st.at 0 rfl) ?_
    walk_at "go"
    first | ((with_reducible refine ifN ?hc ?_); (case hc => exact (by decide))) | rw [if_neg (by decide)]
    walk_at "go"
    exact post g₉ _ _ (sg2.trans sp.sub) (st.sub (List.sublist_cons_self _ _))
  · first | ((with_reducible refine ifN ?hc ?_); (case hc => exact (by simpa using e))) | rw [if_neg (by simpa using e)]
    walk_at "go"
    exact post g _ _ Sub.rfl (by assumption)
end
end
-- F30
section
section
variable {prog : Program} {w : World} {mg mb : Str → Option Value} {p : Program} {loose : List Str} {A : Around} {E : Value → Shared → Prop}
  {g h : Heap} {mu : List (Addr × Obj)} {gs : Array GenState} {dr : Drawn} {tk : Nat} {os : OsState}
theorem BysAre.get' : ∀ {vs : List Value} {bs : List BY} {i : Nat} {v : Value}, BysAre vs bs → vs[i]? = some v → ∃ b t, bs[i]? = some b ∧ v = .bytes b.toArray t
  | _, _, _, _, .nil, e => by simp at e
  | _, _, 0, _, .cons r, e => by simp at e; exact ⟨_, _, rfl, e.symm⟩
  | _, _, i + 1, _, .cons r, e => by simp at e; exact r.get' e
theorem BysAre.gk {vs : List Value} {bs : List BY} {i : Nat} {v : Value} (e : vs[i]? = some v) (h : BysAre vs bs) : ∃ b t, bs[i]? = some b ∧ v = .bytes b.toArray t := h.get' e
noncomputable def paths11 : List BY := [[], [97], [98], [98, 46, 120], [98, 47, 100], [98, 47, 100, 47, 101], [99], [113], [113, 47, 122], [122], [98, 47, 100, 47, 122, 47, 121]]
theorem paths11_len : ∀ p ∈ paths11, p.length ≤ 100 := by decide
theorem IsBM.lookO {k : BY} {vs : List (BY × Value)} {bs : List (BY × BY)} (h : IsBM vs bs) (nd : (bs.map (·.1)).Nodup) : OB ((valueAt vs k).getD .none) (bs.lookup k) := by
  cases e : bs.lookup k with
  | none =>
    have : k ∉ vs.map (·.1) := by
      rw [h.keys]
      intro q
      obtain ⟨x, hx, rfl⟩ := List.mem_map.mp q
      have := List.lookup_eq_none_iff.mp e x hx
      simp at this
    rw [valueAt_none this]
    exact .none
  | some b =>
    obtain ⟨i, hi⟩ := List.getElem?_of_mem (lk_some e)
    obtain ⟨t, ht⟩ := h.get hi
    rw [valueAt_some (by rw [h.keys]; exact nd) ht]
    exact .some _ _
/-- what the last part of the law stands on -/
structure LawR (prog : Program) (w : World) (g : Heap) (S ip op : Addr) (items : List Thing) (n1 n2 : List (BY × BY)) (o1 o2 : BY) : Prop where
  R : StR prog w g S items
  B1 : Built items n1 [] o1
  B2 : Built items n2 [] o2
  D1 : ∃ kv1, DF prog w g ip kv1 ∧ IsBM kv1 n1
  D2 : ∃ kv2, DF prog w g op kv2 ∧ IsBM kv2 n2
theorem LawR.sub {prog : Program} {w : World} {g g' : Heap} {S ip op : Addr} {items : List Thing} {n1 n2 : List (BY × BY)} {o1 o2 : BY} (K : LawR prog w g S ip op items n1 n2 o1 o2) (k : Sub g g') : LawR prog w g' S ip op items n1 n2 o1 o2 :=
  ⟨K.R.sub k, K.B1, K.B2, let ⟨kv, a, b⟩ := K.D1; ⟨kv, a.sub k, b⟩, let ⟨kv, a, b⟩ := K.D2; ⟨kv, a.sub k, b⟩⟩
set_option maxHeartbeats 4000000 in
theorem law_rest {gE hE g h : Heap} {S' : List Addr} {m : Str → Option Value} {L0 cl S ip op : Addr} {oC : Obj} {tab : Array Value} {items : List Thing} {n1 n2 : List (BY × BY)} {o1 o2 : BY} {t1 t2 : Tok} {Q : Flow → Shared → Prop} {body : List Stmt} {n : Nat}
    (hbody : body = (bodyOf w 563).drop 6) (hcl : L0 + 1 = cl) (C : Cx w mg mb p loose g) (rm : Rm A (n + 12)) (K : LawR prog w g S ip op items n1 n2 o1 o2) (hc : ∃ c0, oC.data = .cell c0)
    (st : St gE hE S' g L0 m [(cl, oC), (543, tabObj tab)] h) (m1 : m "store" = some (.ref S)) (m2 : m "one" = some (.bytes o1.toArray t1)) (m3 : m "other" = some (.bytes o2.toArray t2)) (m4 : m "ids" = some (.ref ip)) (m5 : m "others" = some (.ref op))
    (ret : ∀ g' h' m' oC' tk', St gE hE S' g' L0 m' [(cl, oC'), (543, tabObj tab)] h' → Q (.ret (.bool true)) ⟨h', gs, dr, tk', os⟩) :
    wpAny (model prog w) A (execs body (callEnvC (fdOf w 563) L0 563)) Q E ⟨h, gs, dr, tk, os⟩ := by
  subst hbody
  obtain ⟨kv1, DI1, MI1⟩ := K.D1
  obtain ⟨kv2, DI2, MI2⟩ := K.D2
  have hu : A.units + 40 < cLine := by have := rm.u; unfold cLine; omega
  walk_at "sx"
  walk_at "go"
  refine folders_spec (n := n + 8) C (by assumption : St _ _ _ _ _ _ _ _).own.keep rm K.R K.B1 fun D3 g₂ h' tk' kv3 fd3 sp ow DF3 M3 sub3 len3 => ?_
  obtain st : St _ _ _ _ _ _ _ _ := by assumption
  have st := st.call (mu₁ := []) sp ow rfl
  have C := C.sub sp.sub
  walk_at "go"
  refine dicts_ne (by omega) (DF3.sub st.own.keep) ((DI1.sub sp.sub).sub st.own.keep) M3 MI1 K.B1.nd sub3 len3 ?_
  walk_at "go"
  refine folders_spec (n := n + 8) C (by assumption : St _ _ _ _ _ _ _ _).own.keep rm (K.R.sub sp.sub) K.B2 fun D4 g₃ h' tk' kv4 fd4 sp4 ow DF4 M4 sub4 len4 => ?_
  obtain st : St _ _ _ _ _ _ _ _ := by assumption
  have st := st.call (mu₁ := []) sp4 ow rfl
  have C := C.sub sp4.sub
  walk_at "go"
  refine dicts_ne (by omega) (DF4.sub st.own.keep) ((DI2.sub (sp.sub.trans sp4.sub)).sub st.own.keep) M4 MI2 K.B2.nd sub4 len4 ?_
  walk_at "go"
  refine diff_spec (n := n + 4) C (by assumption : St _ _ _ _ _ _ _ _).own.keep rm (K.R.sub (sp.sub.trans sp4.sub)) K.B1 K.B2 fun D5 g₄ h' tk' vsD nlD csD sp5 ow hD5 va co cz => ?_
  obtain st : St _ _ _ _ _ _ _ _ := by assumption
  have st := st.call (mu₁ := []) sp5 ow rfl
  have C := C.sub sp5.sub
  walk_at "go"
  refine change_new8 (n := n + 10) C (by assumption : St _ _ _ _ _ _ _ _).own.keep rm fun xR g₅ h' tk' sp6 ow IR => ?_
  obtain st : St _ _ _ _ _ _ _ _ := by assumption
  have st := st.call (mu₁ := []) sp6 ow rfl
  have C := C.sub sp6.sub
  have IcR : IsCh g₅ (.ref xR) chR := ⟨xR, _, _, _, _, _, _, _, _, rfl, IR, .some [49, 49, 49, 49] _, .some [98, 47, 100, 47, 122] _, .some [49, 49, 49, 49] _, .some [113, 47, 122] _⟩
  walk_at "go"
  rename_i LR _ hLR st
  have vl := va.length
  refine lAdd (its2 := [.ref xR]) st (st.own.keep _ _ (sp6.sub _ _ hD5)) (st.at 0 rfl) (by simp; omega) fun Lc h' hLc st => ?_
  have st := (st.perm (mu' := (Lc, lst (vsD ++ [Value.ref xR]).toArray 0) :: [(cl, oC), (543, tabObj tab)] ++ [(LR, lst [Value.ref xR].toArray 0)]) (.cons _ (List.perm_append_comm (l₁ := [(LR, lst [Value.ref xR].toArray 0)])))).sub (mu' := (Lc, lst (vsD ++ [Value.ref xR]).toArray 0) :: [(cl, oC), (543, tabObj tab)]) (List.sublist_append_left _ _)
  refine st.freezeC hLc fun g₆ sg6 hgc st => ?_
  have C := C.sub sg6
  have vall : All2 (IsCh g₆) (vsD ++ [Value.ref xR]) (csD ++ [chR]) := (va.mono fun _ _ q => q.sub (sp6.sub.trans sg6)).snoc (IcR.sub sg6)
  have vD6 := va.mono fun _ _ q => IsCh.sub q (sp6.sub.trans sg6)
  have sg06 := (((sp.sub.trans sp4.sub).trans sp5.sub).trans sp6.sub).trans sg6
  have K := K.sub sg06
  have DI1 := DI1.sub sg06
  have DI2 := DI2.sub sg06
  have szall : ∀ c ∈ csD ++ [chR], SzOk c := fun c hc => by
    rcases List.mem_append.mp hc with hc | hc
    · exact (co c hc).sz
    · rw [List.mem_singleton.mp hc]; exact chR_sz
  have vall' := vall.length
  have cz' : (csD ++ [chR]).length ≤ 7 := by simp; omega
  refine sL st fun h' tk' st => ?_
  walk_at "sx"
  refine exComp (cl := []) ?sw ?clos ?kind ?names ?fs ?main
  case main =>
    walk_at "go"
    obtain st : St _ _ _ _ _ _ [(cl, oC), (543, tabObj tab)] _ := by assumption
    refine compI (cl := []) (some _) (Iter.list rm.hh (isl hgc)) ?hn ?hcell ?hkind ?hL ?huse st (fun i g' ys mu' => mu' = [(cl, oC), (543, tabObj tab)] ∧ All2 (IsLRow g') ys ((csD ++ [chR]).take i)) ⟨rfl, .nil⟩ ?turn ?done ?ht
    case ht => intro I v; rfl
    case hn => rw [List.size_toArray]; unfold sizeLine; omega
    case turn =>
      intro h₀ S₀ C' D' I i v g₇ h₇ m₇ mu₇ tk₇ oI₀ oI ys na E hi hp' zj sg7 hl' fr st₀ hS st Z Zn zn zs
      obtain ⟨rfl, hys⟩ := zj
      obtain ⟨c, hcc, Ic⟩ := vall.get' (by simpa using hp')
      have C := C.sub sg7
      walk_at "go"
      refine row_spec (n := n + 11) C (by assumption : St _ _ _ _ _ _ _ _).own.keep rm (Ic.sub sg7) fun x g₈ h' tk' sp ow Rx => ?_
      obtain st : St _ _ _ _ _ _ _ _ := by assumption
      have st := st.call (mu₁ := []) sp ow rfl
      refine zn _ g₈ h' _ _ _ sp.sub st ⟨rfl, ?_⟩
      rw [List.take_add_one, hcc]
      exact (hys.mono fun _ _ q => q.sub sp.sub).snoc Rx
    case done =>
      rintro Lw g₇ h₇ mu₇ tk₇ ysW na ⟨rfl, hysW⟩ sg7 hl' hLw st
      rw [List.take_of_length_le (by rw [List.size_toArray]; omega)] at hysW
      refine st.freezeC hLw fun g₈ sg8 hgw st => ?_
      have C := C.sub (sg7.trans sg8)
      have K := K.sub (sg7.trans sg8)
      have DI1 := DI1.sub (sg7.trans sg8)
      have DI2 := DI2.sub (sg7.trans sg8)
      have vall := vall.mono fun _ _ q => IsCh.sub q (sg7.trans sg8)
      have vD6 := vD6.mono fun _ _ q => IsCh.sub q (sg7.trans sg8)
      have hgc := (sg7.trans sg8) _ _ hgc
      have hysW := hysW.mono fun _ _ q => IsLRow.sub q sg8
      (try dsimp only)
      walk_at "sx"
      walk_at "go"
      rename_i tp _ htp st
      refine st.freezeC htp fun g₉ sg9 hgt st => ?_
      have C := C.sub sg9
      have K := K.sub sg9
      have DI1 := DI1.sub sg9
      have DI2 := DI2.sub sg9
      have vall := vall.mono fun _ _ q => IsCh.sub q sg9
      have vD6 := vD6.mono fun _ _ q => IsCh.sub q sg9
      have hgc := sg9 _ _ hgc
      have hgw := sg9 _ _ hgw
      have hysW := hysW.mono fun _ _ q => IsLRow.sub q sg9
      refine forI (Iter.tup rm.hh (ist hgt)) st (fun i g' m' mu' => ∃ oC', mu' = [(cl, oC'), (543, tabObj tab)] ∧ (∃ c0, oC'.data = .cell c0) ∧ m' "changes" = some (.ref Lc) ∧ m' "was" = some (.ref Lw) ∧ m' "ids" = some (.ref ip) ∧ m' "others" = some (.ref op)) ⟨oC, rfl, hc, by walk_at "fr", by walk_at "fr", by walk_at "fr", by walk_at "fr"⟩ ?turn1 ?done1 ?ht1
      case ht1 => intro I v; rfl
      case turn1 =>
        intro i v I g₁₀ h₁₀ m₁₀ mu₁₀ tk₁₀ oI E hi hp zj sg10 st Z zn zb zr
        obtain ⟨oC', rfl, ⟨c0, hc0⟩, f1, f2, f3, f4⟩ := zj
        obtain ⟨pa, tpa, rfl, hpal⟩ : ∃ pa tpa, v = .bytes (List.toArray pa) tpa ∧ pa.length ≤ 100 := by
          rw [List.getElem?_toArray] at hp
          obtain ⟨b, tb, h1, h2⟩ := BysAre.gk (bs := paths11) hp (.cons (.cons (.cons (.cons (.cons (.cons (.cons (.cons (.cons (.cons (.cons .nil)))))))))))
          exact ⟨b, tb, h2, paths11_len b (List.mem_of_getElem? h1)⟩
        refine wpAny_assign_Name ?_
        refine sC st 1 rfl hc0 (fun h' oC1 hc1 st => ?_) (cellAt (by kernel_rfl) hcl)
        refine law_turn1 (n := n) (by kernel_rfl!) hcl (C.sub sg10) rm hc1 hpal (sg10 _ _ hgc) (vall.mono fun _ _ q => IsCh.sub q sg10) szall cz' st f1 fun g' h' m' tk' sg' st' hm' => ?_
        exact zn _ g' _ _ _ _ rfl sg' st' ⟨oC1, rfl, ⟨_, hc1⟩, (hm' _ (by decide)).trans f1, (hm' _ (by decide)).trans f2, (hm' _ (by decide)).trans f3, (hm' _ (by decide)).trans f4⟩
      case done1 =>
        rintro g₁₀ h₁₀ m₁₀ mu₁₀ tk₁₀ ⟨oC', rfl, hc', f1, f2, f3, f4⟩ sg10 st
        have C := C.sub sg10
        have K := K.sub sg10
        have DI1 := DI1.sub sg10
        have DI2 := DI2.sub sg10
        have vall := vall.mono fun _ _ q => IsCh.sub q sg10
        have vD6 := vD6.mono fun _ _ q => IsCh.sub q sg10
        have hgc := sg10 _ _ hgc
        have hgw := sg10 _ _ hgw
        have hysW := hysW.mono fun _ _ q => IsLRow.sub q sg10
        (try dsimp only)
        walk_at "sx"
        walk_at "go"
        refine forI (Iter.dict rm.hh DI1.1 DI1.2) st (fun i g' m' mu' => ∃ oC', mu' = [(cl, oC'), (543, tabObj tab)] ∧ (∃ c0, oC'.data = .cell c0) ∧ m' "changes" = some (.ref Lc) ∧ m' "was" = some (.ref Lw) ∧ m' "ids" = some (.ref ip) ∧ m' "others" = some (.ref op)) ⟨oC', rfl, hc', f1, f2, f3, f4⟩ ?turn2 ?done2 ?ht2
        case ht2 => intro I v; rfl
        case turn2 =>
          intro i v I g₁₁ h₁₁ m₁₁ mu₁₁ tk₁₁ oI E hi hp zj sg11 st Z zn zb zr
          obtain ⟨oC2, rfl, ⟨c0, hc0⟩, f1, f2, f3, f4⟩ := zj
          obtain ⟨ky, x, tx, hk, rfl⟩ := hp
          obtain ⟨b1, tb, hb1, rfl⟩ := MI1.get' hk
          have hmem : (ky, b1) ∈ n1 := List.mem_of_getElem? hb1
          have hv1 : valueAt kv1 ky = some (.bytes b1.toArray tb) := valueAt_some (by rw [MI1.keys]; exact K.B1.nd) hk
          refine wpAny_assign_Name ?_
          refine sC st 1 rfl hc0 (fun h' oC1 hc1 st => ?_) (cellAt (by kernel_rfl) hcl)
          refine law_turn2 (n := n) (n1 := n1) (n2 := n2) (by kernel_rfl!) hcl (C.sub sg11) rm hc1 (K.B1.inF hmem) (sg11 _ _ hgc) (vD6.mono fun _ _ q => IsCh.sub q sg11) co (by omega) (DI1.sub sg11) (DI2.sub sg11) hv1 (lk_mem K.B1.nd hmem) (MI2.lookO K.B2.nd) st f1 f3 f4 fun g' h' tk' sg' st' => ?_
          exact zn _ g' _ _ _ _ rfl sg' st' ⟨oC1, rfl, ⟨_, hc1⟩, f1, f2, f3, f4⟩
        case done2 =>
          rintro g₁₁ h₁₁ m₁₁ mu₁₁ tk₁₁ ⟨oC2, rfl, hc2, f1, f2, f3, f4⟩ sg11 st
          have C := C.sub sg11
          have vall := vall.mono fun _ _ q => IsCh.sub q sg11
          (try dsimp only)
          walk_at "sx"
          refine wpAny_Return_some ?_
          refine xCompare ?_
          refine evComp (cl := []) ?clos3 ?kind3 ?names3 ?fs3 ?main3
          case main3 =>
            walk_at "go"
            refine compI (cl := []) none (Iter.list rm.hh (isl (sg11 _ _ hgc))) ?hn3 ?hcell3 ?hkind3 ?hL3 ?huse3 st (fun i g' ys mu' => mu' = [(cl, oC2), (543, tabObj tab)] ∧ All2 (IsLRow g') ys ((csD ++ [chR]).take i)) ⟨rfl, .nil⟩ ?turn3 ?done3 ?ht3
            case ht3 => intro I v; rfl
            case hn3 => rw [List.size_toArray]; unfold sizeLine; omega
            case turn3 =>
              intro h₀ S₀ C' D' I i v g₁₂ h₁₂ m₁₂ mu₁₂ tk₁₂ oI₀ oI ys na E hi hp' zj sg12 hl' fr st₀ hS st Z Zn zn zs
              obtain ⟨rfl, hys⟩ := zj
              obtain ⟨c, hcc, Ic⟩ := vall.get' (by simpa using hp')
              have C := C.sub sg12
              walk_at "go"
              refine row_spec (n := n + 11) C (by assumption : St _ _ _ _ _ _ _ _).own.keep rm (Ic.sub sg12) fun x g₁₃ h' tk' sp ow Rx => ?_
              obtain st : St _ _ _ _ _ _ _ _ := by assumption
              have st := st.call (mu₁ := []) sp ow rfl
              refine zn _ g₁₃ h' _ _ _ sp.sub st ⟨rfl, ?_⟩
              rw [List.take_add_one, hcc]
              exact (hys.mono fun _ _ q => q.sub sp.sub).snoc Rx
            case done3 =>
              rintro Lz g₁₂ h₁₂ mu₁₂ tk₁₂ ysZ naZ ⟨rfl, hysZ⟩ sg12 hl' hLz st
              rw [List.take_of_length_le (by rw [List.size_toArray]; omega)] at hysZ
              walk_at "go"
              refine rows_eq (cs := csD ++ [chR]) (by omega) (st.at 0 rfl) (st.own.keep _ _ (sg12 _ _ (sg11 _ _ hgw))) (hysZ.mono fun _ _ q => IsLRow.sub q st.own.keep) (hysW.mono fun _ _ q => IsLRow.sub q ((sg11.trans sg12).trans st.own.keep)) ?_
              walk_at "go"
              exact ret g₁₂ h₁₂ _ oC2 _ (st.sub (List.sublist_cons_self _ _))
            all_goals kernel_rfl!
          case names3 => decide
          case fs3 => intro x; kernel_rfl!
          all_goals kernel_rfl!
    all_goals kernel_rfl!
  case names => decide
  case fs => intro x; kernel_rfl!
  all_goals kernel_rfl!
end
end
-- F32
section
section
variable {prog : Program} {w : World} {mg mb : Str → Option Value} {p : Program} {loose : List Str} {A : Around} {E : Value → Shared → Prop}
  {g h : Heap} {mu : List (Addr × Obj)} {gs : Array GenState} {dr : Drawn} {tk : Nat} {os : OsState}
namespace C
theorem enterCells {n : Nat} {f : Addr} {fd : FuncData} {oc : Value} {od : Option Addr} {osl : Array (Option Value)} {body : List Stmt} {args : Args} {binds : List (Str × Value)} {R : Flow → Shared → Prop}
    (C : Cx w mg mb p loose g) (ow : Own g h mu) (rm : Rm A (n + 1))
    (hf : (KK w).lookup f = some ⟨oc, od, .func fd, osl⟩) (hcd : codeIn (KK w) fd.code fd.qualname = true) (hbody : fd.body = .stmts body)
    (hbind : BindsTo ⟨h, gs, dr, tk, os⟩ fd args binds) (hclo : fd.closure = [])
    (hkind : (binds.all fun x => decide (fd.scope.names.lookup x.1 = some .local) || (decide (fd.scope.names.lookup x.1 = some .cell) && ((cellsFrom 0 fd.scope.names []).lookup x.1).isSome)) = true)
    (hnd' : decide (((cellsFrom 0 fd.scope.names []).map (·.1)).Nodup) = true)
    (walk : ∀ h₁ tk₁ obj, Rm (A.deeper (callEnvC fd h.objs.size f)) n → (∀ n c, (cellsFrom (h.objs.size + 1) fd.scope.names []).lookup n = some c → (obj c).data = .cell (bindC (callEnvC fd h.objs.size f).kindOf binds (fun _ => none) n)) →
      St g h (mu.map (·.1)) g h.objs.size (bindL (callEnvC fd h.objs.size f).kindOf binds fun _ => none) (cellObjs obj (cellsFrom (h.objs.size + 1) fd.scope.names []) ++ mu) h₁ →
      ∀ Z : Flow → Shared → Prop, (∀ fl s', R (.ret (match fl with | .ret v => v | _ => .none)) s' → Z fl s') →
      wpC (model prog w) (A.deeper (callEnvC fd h.objs.size f)) (execs body (callEnvC fd h.objs.size f)) Z ⟨h₁, gs, dr, tk₁, os⟩)
    (hco : fd.scope.isCoroutine = false) (hgen : fd.scope.isGenerator = false) (hk : fd.scope.kind = .function) :
    codeC (model prog w) A (.call (.ref f) args) R ⟨h, gs, dr, tk, os⟩ := by
  have lim := C.T.nolimit.keeps ow.keep
  have hnd := of_decide_eq_true hnd'
  refine def' (s := ⟨h, gs, dr, tk, os⟩) rm.lim ((C.X.keeps ow.keep) _ _ hf) rfl (codeRec_of (C.X.keeps ow.keep) hcd) hbody hbind ?_ hco hgen
  refine envCells ow hclo hk (fun x hx => ?_) hnd fun h₁ tk₁ obj ho kk st => ⟨lim.keeps kk, walk h₁ tk₁ obj rm.deeper ho st _ fun _ _ x => x⟩
  have := List.all_eq_true.mp hkind x hx
  simp only [Bool.or_eq_true, Bool.and_eq_true, decide_eq_true_eq] at this
  rcases this with q | ⟨q, r⟩
  · exact .inl q
  · refine .inr ⟨q, ?_⟩
    have hn := cellsFrom_names fd.scope.names 0 (h.objs.size + 1) [] [] rfl
    obtain ⟨c, hc⟩ := Option.isSome_iff_exists.mp r
    have hm : x.1 ∈ (cellsFrom 0 fd.scope.names []).map (·.1) := List.mem_map.mpr ⟨_, mem_of_lookup hc, rfl⟩
    rw [hn] at hm
    obtain ⟨⟨n', c'⟩, hm', e⟩ := List.mem_map.mp hm
    have := lookup_of_mem_nodup (hn ▸ hnd) hm'
    rw [← e, this]
    rfl
end C
/-- a sheet under way -/
structure ShM (prog : Program) (w : World) (d : Addr) (o : Obj) (kvs : List (BY × Value)) (sh : List (BY × BY)) (i : Nat) : Prop where
  D : DM prog w d o kvs
  B : IsBM kvs sh
  ok : ∀ kc ∈ sh, kc.1 ∈ PS ∧ kc.2.length ≤ 900
  nd : (sh.map (·.1)).Nodup
  le : ∀ k ∈ sh.map (·.1), k ∈ PS.take i
theorem ShM.len {prog : Program} {w : World} {d : Addr} {o : Obj} {kvs : List (BY × Value)} {sh : List (BY × BY)} {i : Nat} (s : ShM prog w d o kvs sh i) : kvs.length ≤ 6 := by
  have := nodup_len (k := PS) s.nd fun k hk => by obtain ⟨x, hx, rfl⟩ := List.mem_map.mp hk; exact (s.ok x hx).1
  rw [List.length_map, ← s.B.length] at this
  exact this
theorem ShM.next {prog : Program} {w : World} {d : Addr} {o : Obj} {kvs : List (BY × Value)} {sh : List (BY × BY)} {i : Nat} (s : ShM prog w d o kvs sh i) : ShM prog w d o kvs sh (i + 1) :=
  ⟨s.D, s.B, s.ok, s.nd, fun k hk => by rw [List.take_add_one]; exact List.mem_append_left _ (s.le k hk)⟩
theorem ShM.put {prog : Program} {w : World} {d : Addr} {o o' : Obj} {kvs : List (BY × Value)} {sh : List (BY × BY)} {i : Nat} {k b : BY} {t : Tok} (s : ShM prog w d o kvs sh i) (hk : PS[i]? = some k) (hb : b.length ≤ 900) (D : DM prog w d o' (stored kvs k (.bytes b.toArray t))) :
    ShM prog w d o' (kvs ++ [(k, .bytes b.toArray t)]) (sh ++ [(k, b)]) (i + 1) := by
  have htk : PS.take (i + 1) = PS.take i ++ [k] := by rw [List.take_add_one, hk]; rfl
  have hno : k ∉ sh.map (·.1) := fun q => by
    have h1 := s.le k q
    have h2 : (PS.take (i + 1)).Nodup := (by decide : PS.Nodup).sublist (List.take_sublist _ _)
    rw [htk, List.nodup_append] at h2
    exact h2.2.2 k h1 k (by simp) rfl
  rw [stored_new (by rw [s.B.keys]; exact hno)] at D
  refine ⟨D, s.B.snoc, fun kc hkc => ?_, ?_, fun z hz => ?_⟩
  · rcases List.mem_append.mp hkc with hkc | hkc
    · exact s.ok kc hkc
    · rw [List.mem_singleton.mp hkc]
      exact ⟨List.mem_of_getElem? hk, hb⟩
  · rw [List.map_append, List.nodup_append]
    exact ⟨s.nd, by simp, fun a ha b hb e => by simp at hb; subst hb; subst e; exact hno ha⟩
  · rw [htk]
    rw [List.map_append] at hz
    rcases List.mem_append.mp hz with hz | hz
    · exact List.mem_append_left _ (s.le z hz)
    · exact List.mem_append_right _ hz
theorem PS_len : ∀ p ∈ PS, p.length ≤ 10 := by decide
end
end
-- F34
section
section
variable {prog : Program} {w : World} {mg mb : Str → Option Value} {p : Program} {loose : List Str} {A : Around} {E : Value → Shared → Prop}
  {g h : Heap} {mu : List (Addr × Obj)} {gs : Array GenState} {dr : Drawn} {tk : Nat} {os : OsState}
theorem valueAt_mem {kvs : List (BY × Value)} {k : BY} {v : Value} (h : valueAt kvs k = some v) : ∃ i : Nat, kvs[i]? = some (k, v) := by
  unfold valueAt at h
  obtain ⟨x, hx, rfl⟩ := Option.map_eq_some_iff.mp h
  have h1 := List.find?_some hx
  obtain ⟨i, hi⟩ := List.getElem?_of_mem (List.mem_of_find?_eq_some hx)
  have h1 : x.1 = k := by simpa using h1
  exact ⟨i, by rw [hi, ← h1]⟩
/-- between the turns of the first for -/
inductive OldJ (pr : Program) (ww : World) (g : Heap) (dk l cl nd od kn kd S tp : Addr) (oN o1 o2 : Obj) (i : Nat) (g₁ : Heap) (m₁ : Str → Option Value) (mu₁ : List (Addr × Obj)) : Prop
  | mk (_ : g₁ = g) (oD : Obj) (its : List Value) (nl : Nat) (oC oO : Obj) (kvs : List (BY × Value)) (sh : List (BY × BY)) (_ : mu₁ = [(dk, oD), (l, lst its.toArray nl), (cl, oC), (nd, oN), (od, oO), (kn, o1), (kd, o2), (543, tabObj #[])]) (_ : Deck pr ww dk l oD its) (_ : ∃ c0, oC.data = .cell c0) (_ : ShM pr ww od oO kvs sh i)
    (_ : m₁ "deck" = some (.ref dk)) (_ : m₁ "store" = some (.ref S)) (_ : m₁ "paths" = some (.ref tp)) (_ : m₁ "old" = some (.ref od)) (_ : m₁ "new" = some (.ref nd)) : OldJ pr ww g dk l cl nd od kn kd S tp oN o1 o2 i g₁ m₁ mu₁
/-- between the turns of the second for -/
inductive NewJ (pr : Program) (ww : World) (g : Heap) (dk l cl nd od kn kd S : Addr) (o1 o2 : Obj) (i : Nat) (g₁ : Heap) (m₁ : Str → Option Value) (mu₁ : List (Addr × Obj)) : Prop
  | mk (_ : g₁ = g) (oD : Obj) (its : List Value) (nl : Nat) (oC oN : Obj) (kvs : List (BY × Value)) (sh : List (BY × BY)) (_ : mu₁ = [(dk, oD), (l, lst its.toArray nl), (cl, oC), (nd, oN), (kn, o1), (kd, o2), (543, tabObj #[])]) (_ : Deck pr ww dk l oD its) (_ : ∃ c0, oC.data = .cell c0) (_ : ShM pr ww nd oN kvs sh i)
    (_ : m₁ "deck" = some (.ref dk)) (_ : m₁ "store" = some (.ref S)) (_ : m₁ "old" = some (.ref od)) (_ : m₁ "new" = some (.ref nd)) : NewJ pr ww g dk l cl nd od kn kd S o1 o2 i g₁ m₁ mu₁
set_option maxHeartbeats 4000000 in
theorem law_mid {gE hE g h : Heap} {m : Str → Option Value} {L0 cl S kn kd dk l od nd tp : Addr} {oC oD oO oN o1 o2 : Obj} {its ps : List Value} {nl n : Nat} {Q : Flow → Shared → Prop} {body : List Stmt}
    (hbody : body = (bodyOf w 563).drop 2) (hcl : L0 + 1 = cl) (CX : Cx w mg mb p loose g) (B : g.BuiltinsAt mg 543) (rm : Rm A (n + 29)) (ST : StoreAt g S kn kd) (D1 : DM prog w kn o1 []) (D2 : DM prog w kd o2 []) (Dk : Deck prog w dk l oD its) (DO : DM prog w od oO []) (DN : DM prog w nd oN [])
    (hp : g.get? tp = some (tup ps.toArray 0)) (hps : BysAre ps PS) (hkn : hE.objs.size ≤ kn) (hkd : hE.objs.size ≤ kd) (hod : hE.objs.size ≤ od) (hnd : hE.objs.size ≤ nd) (hc : ∃ c0, oC.data = .cell c0)
    (st : St gE hE [543] g L0 m [(dk, oD), (l, lst its.toArray nl), (cl, oC), (nd, oN), (od, oO), (kn, o1), (kd, o2), (543, tabObj #[])] h)
    (m1 : m "deck" = some (.ref dk)) (m2 : m "store" = some (.ref S)) (m3 : m "paths" = some (.ref tp)) (m4 : m "old" = some (.ref od)) (m5 : m "new" = some (.ref nd))
    (ret : ∀ g' h' m' oC' tab tk', St gE hE [543] g' L0 m' [(cl, oC'), (543, tabObj tab)] h' → Q (.ret (.bool true)) ⟨h', gs, dr, tk', os⟩) :
    wpC (model prog w) A (execs body (callEnvC (fdOf w 563) L0 563)) Q ⟨h, gs, dr, tk, os⟩ := by
  subst hbody
  have psl := hps.length
  refine C.execs' ?_
  refine C.any ?_
  walk_at "go"
  refine forI (Iter.tup rm.hh (ist hp)) st (OldJ prog w g dk l cl nd od kn kd S tp oN o1 o2) ⟨rfl, oD, its, nl, oC, oO, [], [], rfl, Dk, hc, ⟨DO, .nil, by simp, by simp, by simp⟩, m1, m2, m3, m4, m5⟩ ?turn ?done ?ht
  case ht => intro I v; rfl
  case turn =>
    intro i v I g₁ h₁ m₁ mu₁ tk₁ oI E hi hpv zj sg st Z zn zb zr
    obtain ⟨rfl, oD, its, nl, oC, oO, kvs, sh, rfl, Dk, ⟨c0, hc0⟩, SH, f1, f2, f3, f4, f5⟩ := zj
    obtain ⟨pa, tpa, hpa, rfl⟩ := hps.get' (by simpa using hpv)
    have hpl := PS_len pa (List.mem_of_getElem? hpa)
    have hkl := SH.len
    refine wpAny_assign_Name ?_
    refine sC st 3 rfl hc0 (fun h' oC1 hc1 st => ?_) (cellAt (by kernel_rfl) hcl)
    have st : St gE hE [543] g₁ L0 m₁ [(I, oI), (dk, oD), (l, lst its.toArray nl), (cl, oC1), (nd, oN), (od, oO), (kn, o1), (kd, o2), (543, tabObj #[])] h' := st
    walk_at "sx"
    walk_at "go"
    have st : St gE hE [543] g₁ L0 m₁ ([(dk, oD), (l, lst its.toArray nl)] ++ [(I, oI), (cl, oC1), (nd, oN), (od, oO), (kn, o1), (kd, o2), (543, tabObj #[])]) h' := (st.front 2 rfl).front 2 rfl
    refine draw_spec (n := n + 27) CX st.sel rm Dk (by decide) fun z tz oD' its' nl' h' tk' sp ow Dk' => ?_
    have st := St.call (mu₁ := [(dk, oD), (l, lst its.toArray nl)]) (mu₁' := [(dk, oD'), (l, lst its'.toArray nl')]) st sp ow rfl
    have st : St gE hE [543] g₁ L0 m₁ [(I, oI), (dk, oD'), (l, lst its'.toArray nl'), (cl, oC1), (nd, oN), (od, oO), (kn, o1), (kd, o2), (543, tabObj #[])] h' := st.front 2 rfl
    walk_at "go"
    by_cases hz : z = 1
    · first | ((with_reducible refine ifP ?hc ?_); (case hc => exact (by simpa using hz))) | rw [if_pos (by simpa using hz)]
      walk_at "go"
      refine nC (st.at 3 rfl) hc1 ?_ (cellAt (by kernel_rfl) hcl)
      walk_at "go"
      refine nC (st.at 3 rfl) hc1 ?_ (cellAt (by kernel_rfl) hcl)
      refine dSet st 5 rfl SH.D (by omega) fun h' oO' tk' D' st => ?_
      walk_at "go"
      exact zn _ g₁ _ _ _ _ rfl Sub.rfl st ⟨rfl, oD', its', nl', oC1, oO', _, _, rfl, Dk', ⟨_, hc1⟩, SH.put hpa (by simp; omega) D', f1, f2, f3, f4, f5⟩
    · first | ((with_reducible refine ifN ?hc ?_); (case hc => exact (by simpa using hz))) | rw [if_neg (by simpa using hz)]
      walk_at "go"
      exact zn _ g₁ _ _ _ _ rfl Sub.rfl st ⟨rfl, oD', its', nl', oC1, oO, _, _, rfl, Dk', ⟨_, hc1⟩, SH.next, f1, f2, f3, f4, f5⟩
  case done =>
    rintro g₁ h₁ m₁ mu₁ tk₁ ⟨rfl, oD, its, nl, oC, oO, kvs, sh, rfl, Dk, hc, SH, f1, f2, f3, f4, f5⟩ sg st
    refine (st.front 4 rfl).freezeC hod fun g₂ sg2 hgO st => ?_
    have CX := CX.sub sg2
    have DOF : DF prog w g₂ od kvs := ⟨SH.D.1, Heap.dictOf_iff.mpr ⟨oO, hgO, SH.D.2⟩⟩
    have hp := sg2 _ _ hp
    have st : St gE hE [543] g₂ L0 m₁ [(dk, oD), (l, lst its.toArray nl), (cl, oC), (nd, oN), (kn, o1), (kd, o2), (543, tabObj #[])] h₁ := st
    refine C.execs' ?_
    refine C.any ?_
    walk_at "go"
    refine forI (Iter.tup rm.hh (ist hp)) st (NewJ prog w g₂ dk l cl nd od kn kd S o1 o2) ⟨rfl, oD, its, nl, oC, oN, [], [], rfl, Dk, hc, ⟨DN, .nil, by simp, by simp, by simp⟩, f1, f2, f4, f5⟩ ?turn2 ?done2 ?ht2
    case ht2 => intro I v; rfl
    case turn2 =>
      intro i v I g₃ h₃ m₃ mu₃ tk₃ oI E hi hpv zj sg3 st Z zn zb zr
      obtain ⟨rfl, oD, its, nl, oC, oN, kvs2, sh2, rfl, Dk, ⟨c0, hc0⟩, SN, f1, f2, f4, f5⟩ := zj
      obtain ⟨pa, tpa, hpa, rfl⟩ := hps.get' (by simpa using hpv)
      have hpl := PS_len pa (List.mem_of_getElem? hpa)
      have hkl := SN.len
      refine wpAny_assign_Name ?_
      refine sC st 3 rfl hc0 (fun h' oC1 hc1 st => ?_) (cellAt (by kernel_rfl) hcl)
      have st : St gE hE [543] g₃ L0 m₃ [(I, oI), (dk, oD), (l, lst its.toArray nl), (cl, oC1), (nd, oN), (kn, o1), (kd, o2), (543, tabObj #[])] h' := st
      walk_at "sx"
      walk_at "go"
      have st : St gE hE [543] g₃ L0 m₃ ([(dk, oD), (l, lst its.toArray nl)] ++ [(I, oI), (cl, oC1), (nd, oN), (kn, o1), (kd, o2), (543, tabObj #[])]) h' := (st.front 2 rfl).front 2 rfl
      refine draw_spec (n := n + 27) CX st.sel rm Dk (by decide) fun z tz oD' its' nl' h' tk' sp ow Dk' => ?_
      have st := St.call (mu₁ := [(dk, oD), (l, lst its.toArray nl)]) (mu₁' := [(dk, oD'), (l, lst its'.toArray nl')]) st sp ow rfl
      have st : St gE hE [543] g₃ L0 m₃ [(I, oI), (dk, oD'), (l, lst its'.toArray nl'), (cl, oC1), (nd, oN), (kn, o1), (kd, o2), (543, tabObj #[])] h' := st.front 2 rfl
      walk_at "go"
      by_cases hz : z = 1
      · first | ((with_reducible refine ifP ?hc ?_); (case hc => exact (by simpa using hz))) | rw [if_pos (by simpa using hz)]
        walk_at "go"
        obtain st : St _ _ _ _ _ _ _ _ := by assumption
        refine nC (st.at 3 rfl) hc1 ?_ (cellAt (by kernel_rfl) hcl)
        walk_at "go"
        refine nC (st.at 3 rfl) hc1 ?_ (cellAt (by kernel_rfl) hcl)
        refine dSet st 4 rfl SN.D (by omega) fun h' oN' tk' D' st => ?_
        walk_at "go"
        exact zn _ g₃ _ _ _ _ rfl Sub.rfl st ⟨rfl, oD', its', nl', oC1, oN', _, _, rfl, Dk', ⟨_, hc1⟩, SN.put hpa (by simp; omega) D', by walk_at "fr", by walk_at "fr", by walk_at "fr", by walk_at "fr"⟩
      · first | ((with_reducible refine ifN ?hc ?_); (case hc => exact (by simpa using hz))) | rw [if_neg (by simpa using hz)]
        walk_at "go"
        by_cases hz0 : z = 0
        · first | ((with_reducible refine ifP ?hc ?_); (case hc => exact (by simpa using hz0))) | rw [if_pos (by simpa using hz0)]
          walk_at "go"
          obtain st : St _ _ _ _ _ _ _ _ := by assumption
          refine nC (st.at 3 rfl) hc1 ?_ (cellAt (by kernel_rfl) hcl)
          walk_at "go"
          cases hv : valueAt kvs pa with
          | none =>
            first | ((with_reducible refine ifN ?hc ?_); (case hc => exact (by simp))) | rw [if_neg (by simp)]
            walk_at "go"
            obtain st : St _ _ _ _ _ _ _ _ := by assumption
            exact zn _ g₃ _ _ _ _ rfl Sub.rfl st ⟨rfl, oD', its', nl', oC1, oN, _, _, rfl, Dk', ⟨_, hc1⟩, SN.next, by walk_at "fr", by walk_at "fr", by walk_at "fr", by walk_at "fr"⟩
          | some v =>
            obtain ⟨j, hj⟩ := valueAt_mem hv
            obtain ⟨c, tc, hsh, rfl⟩ := SH.B.get' hj
            have hcl9 := (SH.ok _ (List.mem_of_getElem? hsh)).2
            first | ((with_reducible refine ifP ?hc ?_); (case hc => exact (by simp))) | rw [if_pos (by simp)]
            walk_at "go"
            obtain st : St _ _ _ _ _ _ _ _ := by assumption
            refine nC (st.at 3 rfl) hc1 ?_ (cellAt (by kernel_rfl) hcl)
            walk_at "go"
            obtain st : St _ _ _ _ _ _ _ _ := by assumption
            refine nC (st.at 3 rfl) hc1 ?_ (cellAt (by kernel_rfl) hcl)
            refine dSet st 4 rfl SN.D (by omega) fun h' oN' tk' D' st => ?_
            walk_at "go"
            exact zn _ g₃ _ _ _ _ rfl Sub.rfl st ⟨rfl, oD', its', nl', oC1, oN', _, _, rfl, Dk', ⟨_, hc1⟩, SN.put hpa hcl9 D', by walk_at "fr", by walk_at "fr", by walk_at "fr", by walk_at "fr"⟩
        · first | ((with_reducible refine ifN ?hc ?_); (case hc => exact (by simpa using hz0))) | rw [if_neg (by simpa using hz0)]
          walk_at "go"
          obtain st : St _ _ _ _ _ _ _ _ := by assumption
          exact zn _ g₃ _ _ _ _ rfl Sub.rfl st ⟨rfl, oD', its', nl', oC1, oN, _, _, rfl, Dk', ⟨_, hc1⟩, SN.next, by walk_at "fr", by walk_at "fr", by walk_at "fr", by walk_at "fr"⟩
    case done2 =>
      rintro g₃ h₃ m₃ mu₃ tk₃ ⟨rfl, oD, its, nl, oC, oN, kvs2, sh2, rfl, Dk, hc, SN, f1, f2, f4, f5⟩ sg3 st
      refine (st.front 3 rfl).freezeC hnd fun g₄ sg4 hgN st => ?_
      have CX := CX.sub sg4
      have SA1 : SheetAt prog w g₄ od sh := ⟨⟨kvs, DOF.sub sg4, SH.B⟩, SH.ok, SH.nd⟩
      have SA2 : SheetAt prog w g₄ nd sh2 := ⟨⟨kvs2, ⟨SN.D.1, Heap.dictOf_iff.mpr ⟨oN, hgN, SN.D.2⟩⟩, SN.B⟩, SN.ok, SN.nd⟩
      have st : St gE hE [543] g₄ L0 m₃ [(dk, oD), (l, lst its.toArray nl), (cl, oC), (kn, o1), (kd, o2), (543, tabObj #[])] h₃ := st
      refine C.execs' ?_
      refine C.any ?_
      with_reducible refine Assign_Tuple_swapped (names := ["ids", "others"]) ?_ (by kernel_rfl!) (by kernel_rfl!)
      refine Tuple_ ?_
      walk_at "go"
      rename_i ip _ o3 D3 hip _ op _ o4 D4 hop _ tu _ htu st
      refine uTup st rm.hh (st.at 0 rfl) rfl fun h' st => ?_
      have st := st.sub (List.sublist_cons_self _ _)
      refine aSw (n := "others") (ns := ["ids"]) (x := .ref op) (xs := [.ref ip]) ?_
      walk_at "go"
      refine aSw ?_
      walk_at "go"
      refine aSw0 ?_
      obtain st : St _ _ _ _ _ _ [(op, o4), (ip, o3), (dk, oD), (l, lst its.toArray nl), (cl, oC), (kn, o1), (kd, o2), (543, tabObj #[])] _ := by assumption
      refine C.execs' ?_
      refine C.AssignSwapped (names := ["one", "other"]) ?_
      refine C.Tuple ?_
      refine C.SplCons ?_
      refine C.Call ?_
      walk_at "go"
      with_reducible refine C.callK (by kernel_rfl!) ?_
      refine C.any ?_
      walk_at "go"
      obtain st : St _ _ _ _ _ _ [(op, o4), (ip, o3), (dk, oD), (l, lst its.toArray nl), (cl, oC), (kn, o1), (kd, o2), (543, tabObj #[])] _ := by assumption
      have st := (((st.front 1 rfl).front 7 rfl).front 7 rfl).front 7 rfl
      have st := st.perm (mu' := [(kn, o1), (kd, o2), (543, tabObj #[]), (ip, o3)] ++ [(op, o4), (dk, oD), (l, lst its.toArray nl), (cl, oC)]) (.refl _)
      have B4 := bAt_keeps B (sg2.trans sg4)
      have ST4 := ST.sub (sg2.trans sg4)
      have F0 : StF prog w g₄ kn kd o1 o2 [] := ⟨⟨[], D1, IsKnown.nil⟩, ⟨[], D2, IsKept.nil⟩, List.nodup_nil⟩
      refine law_tree (prog := prog) (w := w) (S := S) (kn := kn) (kd := kd) (ip := ip) (sp := od) (sh := sh) 2 _ g₄ _ gs dr _ os [] #[] o1 o2 o3 [] [] [] _ _ (n + 13) (by decide) (by decide) CX B4 rm st.sel (.inl rfl) ST4 SA1 F0 (fun _ h => nomatch h) (by decide) D3 .nil (by simp) (by simp) ?_
      intro oid1 items1 new1 tab1 o1' o2' o3' kvI1 g₅ h' tk' t' sp ow T1 F1 G1 x1 z1 D3' b1 Bt1
      have st := St.call (mu₁ := [(kn, o1), (kd, o2), (543, tabObj #[]), (ip, o3)]) (mu₁' := [(kn, o1'), (kd, o2'), (543, tabObj tab1), (ip, o3')]) st sp ow rfl
      have st := (((st.front 4 rfl).front 3 rfl).front 3 rfl).front 3 rfl
      have st := st.perm (mu' := [(kn, o1'), (kd, o2'), (543, tabObj tab1), (op, o4)] ++ [(ip, o3'), (dk, oD), (l, lst its.toArray nl), (cl, oC)]) (.refl _)
      have CX := CX.sub sp.sub
      refine C.SplCons ?_
      refine C.Call ?_
      walk_at "go"
      with_reducible refine C.callK (by kernel_rfl!) ?_
      refine C.any ?_
      walk_at "go"
      refine law_tree (prog := prog) (w := w) (S := S) (kn := kn) (kd := kd) (ip := op) (sp := nd) (sh := sh2) 2 _ g₅ _ gs dr _ os [] tab1 o1' o2' o4 items1 [] [] _ _ (n + 13) (by decide) (by decide) CX (bAt_keeps B4 sp.sub) rm st.sel T1 (ST4.sub sp.sub) (SA2.sub sp.sub) F1 G1 (by simp at z1; omega) D4 .nil (by simp) (by simp) ?_
      intro oid2 items2 new2 tab2 o1'' o2'' o4' kvI2 g₆ h' tk' t'' sp6 ow T2 F2 G2 x2 z2 D4' b2 Bt2
      have st := St.call (mu₁ := [(kn, o1'), (kd, o2'), (543, tabObj tab1), (op, o4)]) (mu₁' := [(kn, o1''), (kd, o2''), (543, tabObj tab2), (op, o4')]) st sp6 ow rfl
      have CX := CX.sub sp6.sub
      refine C.SplNil ?_
      refine tNew st (Nat.le_of_ble_eq_true rfl) fun tu3 h' htu3 st => ?_
      refine uTup st rm.hh (st.at 0 rfl) rfl fun h' st => ?_
      have st := st.sub (List.sublist_cons_self _ _)
      refine aSw (n := "other") (ns := ["one"]) (x := .bytes oid2.toArray t'') (xs := [.bytes oid1.toArray t']) ?_
      walk_at "go"
      refine aSw ?_
      walk_at "go"
      refine aSw0 ?_
      obtain st : St _ _ _ _ _ _ ([(kn, o1''), (kd, o2''), (543, tabObj tab2), (op, o4')] ++ [(ip, o3'), (dk, oD), (l, lst its.toArray nl), (cl, oC)]) _ := by assumption
      refine (st.front 1 rfl).freezeC hkd fun g₇ sg7 hgK st => ?_
      refine (st.front 2 rfl).freezeC hop fun g₈ sg8 hgP st => ?_
      refine (st.front 2 rfl).freezeC hip fun g₉ sg9 hgI st => ?_
      have st := (st.front 4 rfl).sub (mu' := [(cl, oC), (543, tabObj tab2)]) (.cons_cons _ (.cons _ (.cons_cons _ (List.nil_sublist _))))
      have CX := CX.sub ((sg7.trans sg8).trans sg9)
      obtain ⟨kvK, DK, KK2⟩ := F2.b
      have hlen : items2.length ≤ 50000 := by simp at z1 z2; omega
      have R9 : StR prog w g₉ S items2 := ⟨⟨kn, kd, kvK, ST4.sub ((((sp.sub.trans sp6.sub).trans sg7).trans sg8).trans sg9), ⟨DK.1, Heap.dictOf_iff.mpr ⟨o2'', (sg8.trans sg9) _ _ hgK, DK.2⟩⟩, KK2.sub ((sg7.trans sg8).trans sg9)⟩, hlen⟩
      have K9 : LawR prog w g₉ S ip op items2 new1 new2 oid1 oid2 := ⟨R9, Bt1.ext x2, Bt2, ⟨kvI1, ⟨D3'.1, Heap.dictOf_iff.mpr ⟨o3', hgI, D3'.2⟩⟩, b1⟩, ⟨kvI2, ⟨D4'.1, Heap.dictOf_iff.mpr ⟨o4', sg9 _ _ hgP, D4'.2⟩⟩, b2⟩⟩
      refine C.any ?_
      refine law_rest (n := n + 17) (by kernel_rfl!) hcl CX rm K9 hc st (by walk_at "fr") (by walk_at "fr") (by walk_at "fr") (by walk_at "fr") (by walk_at "fr") fun g' h' m' oC' tk' st => ?_
      exact ret g' h' m' oC' tab2 tk' st
end
end
-- F33
section
section
variable {prog : Program} {w : World} {mg mb : Str → Option Value} {p : Program} {loose : List Str} {A : Around} {E : Value → Shared → Prop}
  {g h : Heap} {mu : List (Addr × Obj)} {gs : Array GenState} {dr : Drawn} {tk : Nat} {os : OsState}
set_option maxHeartbeats 4000000 in
theorem law_spec {sc : Addr} {vs : List Value} {ns : List Int} {Q : Value → Shared → Prop} {n : Nat} (CX : Cx w mg mb p loose g) (B : g.BuiltinsAt mg 543) (ow : Own g h [(543, tabObj #[])]) (rm : Rm A (n + 30)) (hl : g.IsList sc vs.toArray) (hi : IntsAre vs ns) (hz : ns.length ≤ 63)
    (ret : ∀ g' h' tk' tab, Step [543] g h g' h' → Own g' h' [(543, tabObj tab)] → Q (.bool true) ⟨h', gs, dr, tk', os⟩) :
    codeC (model prog w) A (.call (.ref 563) ⟨[.ref sc], []⟩) (fun f s' => match f with | .ret v => Q v s' | _ => False) ⟨h, gs, dr, tk, os⟩ := by
  refine C.enterCells (f := 563) (fd := fdOf w 563) (body := bodyOf w 563) (binds := [("script", .ref sc)]) CX ow rm (oc := .type "function") (od := none) (osl := #[]) ?a ?b ?c ?d ?dc ?e ?nd ?walk ?f ?g ?i
  case walk =>
    intro h₁ tk₁ obj rm hob st Z0 z0
    have hcell : (obj (h.objs.size + 1)).data = .cell none := hob "path" _ (by kernel_rfl)
    have st : St g h [543] g h.objs.size _ [(h.objs.size + 1, obj (h.objs.size + 1)), (543, tabObj #[])] h₁ := st
    generalize hm : bindL (callEnvC (fdOf w 563) h.objs.size 563).kindOf [("script", .ref sc)] (fun _ => none) = m at st
    have m1 : m "script" = some (.ref sc) := by rw [← hm]; kernel_rfl
    clear hm
    generalize hcl : h.objs.size + 1 = cl at st hcell
    generalize obj cl = oC at st hcell
    refine C.execs' ?_
    refine C.any ?_
    with_reducible refine Assign_Tuple_swapped (names := ["deck", "store"]) ?_ (by kernel_rfl!) (by kernel_rfl!)
    refine Tuple_ ?_
    refine xSplCons ?_
    walk_at "go"
    refine deck_spec (n := n + 27) CX (by assumption : St _ _ _ _ _ _ _ _).own.keep rm hl hi hz fun dk l oD its nl h' tk' sp ow Dk hdk hll => ?_
    obtain st : St _ _ _ _ _ _ _ _ := by assumption
    have st := St.callN (mu₁ := []) (mu₁' := []) (new := [(dk, oD), (l, lst its.toArray nl)]) st sp ow rfl (fun q hq => by
      simp only [List.mem_cons, List.not_mem_nil, or_false] at hq
      rcases hq with rfl | rfl
      · exact hdk
      · exact hll)
    have st := st.perm (mu' := [(dk, oD), (l, lst its.toArray nl), (cl, oC), (543, tabObj #[])]) (.refl _)
    refine xSplCons ?_
    walk_at "go"
    refine hasher_spec (n := n + 27) CX (by assumption : St _ _ _ _ _ _ _ _).own.keep rm fun H kn o1 g₂ h' tk' sp2 ow D1 IH hkn => ?_
    obtain st : St _ _ _ _ _ _ [(dk, oD), (l, lst its.toArray nl), (cl, oC), (543, tabObj #[])] _ := by assumption
    have hkn0 := Nat.le_trans st.step.size hkn
    have st := St.callN (mu₁ := []) (mu₁' := []) (new := [(kn, o1)]) st sp2 ow rfl (fun q hq => by
      rw [List.mem_singleton.mp hq]; exact hkn)
    have CX := CX.sub sp2.sub
    walk_at "go"
    refine store_new (n := n + 27) CX (by assumption : St _ _ _ _ _ _ _ _).own.keep rm fun S kd o2 g₃ h' tk' sp3 ow D2 IS hkd => ?_
    obtain st : St _ _ _ _ _ _ _ _ := by assumption
    have hkd0 := Nat.le_trans st.step.size hkd
    have st := St.callN (mu₁ := []) (mu₁' := []) (new := [(kd, o2)]) st sp3 ow rfl (fun q hq => by
      rw [List.mem_singleton.mp hq]; exact hkd)
    have CX := CX.sub sp3.sub
    have ST : StoreAt g₃ S kn kd := ⟨H, _, IS, IH.sub sp3.sub⟩
    have st := st.perm (mu' := [(kd, o2), (kn, o1), (dk, oD), (l, lst its.toArray nl), (cl, oC), (543, tabObj #[])]) (.refl _)
    walk_at "go"
    rename_i tu _ htu st
    refine uTup st rm.hh (st.at 0 rfl) rfl fun h' st => ?_
    have st := st.sub (List.sublist_cons_self _ _)
    refine aSw (n := "store") (ns := ["deck"]) (xs := [.ref dk]) ?_
    walk_at "go"
    refine aSw ?_
    walk_at "go"
    refine aSw0 ?_
    obtain st : St _ _ _ _ _ _ [(kd, o2), (kn, o1), (dk, oD), (l, lst its.toArray nl), (cl, oC), (543, tabObj #[])] _ := by assumption
    refine C.execs' ?_
    refine C.any ?_
    with_reducible refine Assign_Tuple_swapped (names := ["paths", "old", "new"]) ?_ (by kernel_rfl!) (by kernel_rfl!)
    refine Tuple_ ?_
    refine xSplCons ?_
    walk_at "go"
    rename_i tp _ htp _ od _ oO DO hod _ nd _ oN DN hnd _ tu2 _ htu2 st
    refine uTup st rm.hh (st.at 0 rfl) rfl fun h' st => ?_
    have st := st.sub (List.sublist_cons_self _ _)
    refine aSw (n := "new") (ns := ["old", "paths"]) (x := .ref nd) (xs := [.ref od, .ref tp]) ?_
    walk_at "go"
    refine aSw ?_
    walk_at "go"
    refine aSw ?_
    walk_at "go"
    refine aSw0 ?_
    refine (St.front (by assumption : St _ _ _ _ _ _ [(nd, oN), (od, oO), (tp, _), (kd, o2), (kn, o1), (dk, oD), (l, lst its.toArray nl), (cl, oC), (543, tabObj #[])] _) 2 rfl).freezeC htp fun g₄ sg4 hgT st => ?_
    have CX := CX.sub sg4
    have st := ((st.front 6 rfl).front 6 rfl).front 6 rfl
    have st := st.perm (mu' := [(dk, oD), (l, lst its.toArray nl), (cl, oC), (nd, oN), (od, oO), (kn, o1), (kd, o2), (543, tabObj #[])]) (.cons _ (.cons _ (.cons _ (.cons _ (.cons _ (.swap ..))))))
    refine law_mid (n := n) (by kernel_rfl!) hcl CX (bAt_keeps B ((sp2.sub.trans sp3.sub).trans sg4)) rm (ST.sub sg4) D1 D2 Dk DO DN hgT (.cons (.cons (.cons (.cons (.cons (.cons .nil)))))) hkn0 hkd0 hod hnd ⟨none, hcell⟩ st (by walk_at "fr") (by walk_at "fr") (by walk_at "fr") (by walk_at "fr") (by walk_at "fr") fun g' h' m' oC' tab tk' st => ?_
    walk_at "go"
    exact ret g' h' tk' tab st.step (st.sub (List.sublist_cons_self _ _)).own
  all_goals walk_at "kr"
end
end
-- Hd
section
set_option maxHeartbeats 0
noncomputable def Tied2 {P : Prop} (_ : P) (Q : Prop) : Prop := Q
namespace Z1
theorem PySem.W.holds_open {r : OpenRow} {q : Program} {loose : List Str} {Xt : Shared → Bool} {XP : (Str → Option Value) → Heap → Prop} {α : Type} {Yf : Shared → α} {Ya : World → α} {YP : World → Heap → Prop} {d : DefRec} {kwd : List (Str × Expr)} {N : Nat}
    (left : LeftO r.prog q loose Xt Yf Ya N) (hY : ∀ w s, Yf s = Ya w → YP w s.heap) (hYk : ∀ w h h', YP w h → (∀ b o, h.get? b = some o → h'.get? b = some o) → YP w h')
    (hX : ∀ s, Xt s = true → XP (s.heap.nsMap mainGlobals) s.heap) (hXk : ∀ mg h h', XP mg h → (∀ b o, h.get? b = some o → h'.get? b = some o) → XP mg h')
    (hdef : defOf q r.name = some (d, kwd)) (hp : r.prog.theDef r.name = some (d.params, d.body, d.scope)) (hk : kwWritten? d.params.kwonlyargs d.params.kw_defaults = some kwd) (hRf : ∀ s, Xt s = true → RecFacts r.records s.heap) (hwr : (!r.writes || r.records.isEmpty) = true)
    (k1 : r.wellSaid = true ∧ Z0.A.1) (ok : (chainsOk q && opensWell r.prog && (frees r.toRowW && r.within.isEmpty)) = true) (hb : r.prog.bare) (hw : r.toRowW.promised)
    (walk : Tied2 k1 (WalkOC q loose XP YP r.toRowW d kwd)) : r.Holds :=
  Mine.PySem.W.holds_open left hY hYk hX hXk hdef hp hk hRf hwr k1.1 ok hb hw walk
namespace hd
theorem tw6458061037668685104 : True := trivial
theorem tw17588847999138568251 : True := trivial
theorem tw15358855771059297092 : True := trivial
theorem tw11399083543565280104 : True := trivial
theorem tw6383163000634274214 : True := trivial
theorem tw13238887905250424597 : True := trivial
theorem tw8706656141653310847 : True := trivial
theorem tw14916232351347704059 : True := trivial
theorem tw17048016986593770332 : True := trivial
theorem tw5355263750451887448 : True := trivial
theorem tw5621131294801128590 : True := trivial
theorem tw1817434672804704685 : True := trivial
theorem tw2182733224173743134 : True := trivial
theorem tw13123136385617759602 : True := trivial
theorem tw6954360933491986998 : True := trivial
theorem tw7751895069284460539 : True := trivial
theorem tw12697521548848019931 : True := trivial
theorem tw7214880897977395645 : True := trivial
theorem tw15165378867828764995 : True := trivial
theorem tw10252785584284786488 : True := trivial
theorem tw16498014847774743366 : True := trivial
theorem tw4193269081100067210 : True := trivial
theorem tw15799563610841851716 : True := trivial
theorem tw2934005092646249707 : True := trivial
theorem tw6947141966161793841 : True := trivial
theorem tw7491653682732020769 : True := trivial
theorem tw13372035865562266604 : True := trivial
theorem tw6762108822939909440 : True := trivial
theorem tw538841478106011030 : True := trivial
theorem tw16341859910939101975 : True := trivial
theorem tw9096863770027052844 : True := trivial
theorem tw424519089237473150 : True := trivial
theorem tw7036023957861419094 : True := trivial
theorem tw7155373434708421759 : True := trivial
theorem tw4220457968546158871 : True := trivial
theorem tw9217841561947351837 : True := trivial
theorem tw8939989524015388645 : True := trivial
theorem tw6036188895986754403 : True := trivial
theorem tw18178963324410192700 : True := trivial
theorem tw8106287521510389241 : True := trivial
theorem tw7716398408794516098 : True := trivial
theorem tw3176327814102977071 : True := trivial
theorem tw10602682440191194548 : True := trivial
theorem tw2376699014141649908 : True := trivial
theorem tw10621886480722820309 : True := trivial
theorem tw11510921070184935716 : True := trivial
theorem tw6644024768352308470 : True := trivial
theorem tw12989854444771980695 : True := trivial
theorem tw11316367862521171942 : True := trivial
theorem tw16146479249866674734 : True := trivial
theorem tw1677107117934263489 : True := trivial
theorem tw8496261603800247679 : True := trivial
theorem tw8456477507930053995 : True := trivial
theorem tw17778798678621933053 : True := trivial
theorem tw4064478920762644243 : True := trivial
theorem tw17042984524393185416 : True := trivial
theorem tw5211974811527266375 : True := trivial
theorem tw1044021277353027984 : True := trivial
theorem tw5906344544681238502 : True := trivial
theorem tw5492412145385146629 : True := trivial
theorem tw5071307644133140542 : True := trivial
theorem tw6818712209933379771 : True := trivial
theorem tw799453817705024386 : True := trivial
theorem tw5534535670041243365 : True := trivial
theorem tw8870588562214216637 : True := trivial
theorem tw1847527107925040454 : True := trivial
theorem tw16119458012814479204 : True := trivial
theorem tw2770199587753066309 : True := trivial
theorem tw1582799940599606205 : True := trivial
theorem tw13092330956431492451 : True := trivial
theorem tw2319450784949278698 : True := trivial
theorem tw16984318713154257503 : True := trivial
theorem tw52348255295532546 : True := trivial
theorem tw13809399925951705910 : True := trivial
theorem tw5798999017767862585 : True := trivial
theorem tw14775789203495696658 : True := trivial
theorem tw9200860245236066502 : True := trivial
theorem tw14265865824264844678 : True := trivial
theorem tw3009210952573887655 : True := trivial
theorem tw4753673841443958446 : True := trivial
theorem tw18034035898848077623 : True := trivial
theorem tw1487737375869557922 : True := trivial
theorem tw6098295248091943322 : True := trivial
theorem tw10302866882877101491 : True := trivial
theorem tw17526566116057678535 : True := trivial
theorem tw1582902453999344347 : True := trivial
theorem tw12147821094780789911 : True := trivial
theorem tw11025157072469938593 : True := trivial
theorem tw7679736167009141060 : True := trivial
theorem tw1650190668965707767 : True := trivial
theorem tw9147204494600427464 : True := trivial
theorem tw2192217448560901679 : True := trivial
theorem tw14732494243168651890 : True := trivial
theorem tw619514121885475908 : True := trivial
theorem tw1976282156742986300 : True := trivial
theorem tw3233003040108286337 : True := trivial
theorem tw9576419311804014941 : True := trivial
theorem tw2395695692356431733 : True := trivial
theorem tw7527123150998044716 : True := trivial
theorem tw17477464510002419367 : True := trivial
theorem tw16831329699229895484 : True := trivial
theorem tw10884825549477321574 : True := trivial
theorem tw14531529098128918343 : True := trivial
theorem tw2452496881505213043 : True := trivial
theorem tw8609580968356787164 : True := trivial
theorem tw12145713816056038863 : True := trivial
theorem tw16856048021163580555 : True := trivial
theorem tw4473080644019326420 : True := trivial
theorem tw14789068822642977047 : True := trivial
theorem tw2497829658999257292 : True := trivial
theorem tw1234416235171008766 : True := trivial
theorem tw15684975151120951237 : True := trivial
theorem tw4539724374793553098 : True := trivial
theorem tw6185074866567835157 : True := trivial
theorem tw16749278069324708585 : True := trivial
theorem tw7950449497920996810 : True := trivial
theorem tw11118203014330937931 : True := trivial
theorem tw9762901463058442623 : True := trivial
theorem tw17709865223627025779 : True := trivial
theorem tw8572465683894021466 : True := trivial
theorem tw3383334155205701478 : True := trivial
theorem tw16913098792601150923 : True := trivial
theorem tw14360421194028152985 : True := trivial
theorem tw9898071793638985735 : True := trivial
theorem tw7183952244571453490 : True := trivial
theorem tw5411883630743336888 : True := trivial
theorem tw16323557265976539500 : True := trivial
theorem tw12969022290360487794 : True := trivial
theorem tw3408532666788871232 : True := trivial
theorem tw17239610265697411461 : True := trivial
theorem tw776601902222582808 : True := trivial
theorem tw11813237502582316473 : True := trivial
theorem tw15697459413934441245 : True := trivial
theorem tw7830163137952703188 : True := trivial
theorem tw16099958776169438297 : True := trivial
theorem tw3011889463564517529 : True := trivial
theorem tw18296591739542547038 : True := trivial
theorem tw1682255564475059714 : True := trivial
theorem tw7780367946016728760 : True := trivial
theorem tw2356763082531920781 : True := trivial
theorem tw11666108523818590492 : True := trivial
theorem tw10153268784663816076 : True := trivial
theorem tw18044664733009143542 : True := trivial
theorem tw18148242058807069201 : True := trivial
theorem tw8531636788167430734 : True := trivial
theorem tw5373666492991976744 : True := trivial
theorem tw2394147674125921321 : True := trivial
theorem tw4933984221397148290 : True := trivial
theorem tw8488862118669688873 : True := trivial
theorem tw13575757616826817637 : True := trivial
theorem tw15973789757230179154 : True := trivial
theorem tw9572719572676507215 : True := trivial
theorem tw14334463095932957591 : True := trivial
theorem tw5224986341269209614 : True := trivial
theorem tw14629697105522835709 : True := trivial
theorem tw4877653081471370230 : True := trivial
theorem tw4839632911826924010 : True := trivial
theorem tw10482430074568728482 : True := trivial
theorem tw10624148702117042549 : True := trivial
theorem tw9322719456208287105 : True := trivial
theorem tw4781363528940107071 : True := trivial
theorem tw1774582551167461495 : True := trivial
theorem tw17509651428371620333 : True := trivial
theorem tw5152658857234752185 : True := trivial
theorem tw4523747950388199910 : True := trivial
theorem tw4173523798396465482 : True := trivial
theorem tw15243758557095211834 : True := trivial
theorem tw14680517187796848167 : True := trivial
theorem tw13059189806974195171 : True := trivial
theorem tw3926808146506784244 : True := trivial
theorem tw10114130882490818984 : True := trivial
theorem tw11933811267919472326 : True := trivial
theorem tw5160252155941899276 : True := trivial
theorem tw4869312954167281196 : True := trivial
theorem tw7750547270081445648 : True := trivial
theorem tw3019689354835635455 : True := trivial
theorem tw17874603239150078194 : True := trivial
theorem tw16209887708138733604 : True := trivial
theorem tw2345520644903224547 : True := trivial
theorem tw9581820922731707434 : True := trivial
theorem tw8204305741854283050 : True := trivial
theorem tw16548103546741384494 : True := trivial
theorem tw10123243221975274080 : True := trivial
theorem tw145563566134091968 : True := trivial
theorem tw2009484001534217815 : True := trivial
theorem tw15434352115587559869 : True := trivial
theorem tw4076919468295197705 : True := trivial
theorem tw2299913376085181922 : True := trivial
theorem tw13690291506289581379 : True := trivial
theorem tw15741389240201849970 : True := trivial
theorem tw15580450691853083444 : True := trivial
theorem tw15814866112571591076 : True := trivial
theorem tw3964056875079748767 : True := trivial
theorem tw8215220769320905429 : True := trivial
theorem tw1287089054708074893 : True := trivial
theorem tw18036707770315283368 : True := trivial
theorem tw11184548583969248509 : True := trivial
theorem tw9565525304927420495 : True := trivial
theorem tw2438376661832036409 : True := trivial
theorem tw11354618740737471676 : True := trivial
theorem tw1366589281745096847 : True := trivial
theorem tw14776768844346031854 : True := trivial
theorem tw15131251839485750888 : True := trivial
theorem tw5122547853155198798 : True := trivial
theorem tw17362812323967107581 : True := trivial
theorem tw12043690033162391391 : True := trivial
theorem tw15246643917307564460 : True := trivial
theorem tw14548123570532801416 : True := trivial
theorem tw237506028129025252 : True := trivial
theorem tw10903151451345024 : True := trivial
theorem tw16311273394729053216 : True := trivial
theorem tw11671372291775005797 : True := trivial
theorem tw16245621382023748457 : True := trivial
theorem tw1215024577907198860 : True := trivial
theorem tw4381256311926126048 : True := trivial
theorem tw10310885662651029538 : True := trivial
theorem tw13386784041641287659 : True := trivial
theorem tw17488012689413739505 : True := trivial
theorem tw7456454824181499946 : True := trivial
theorem tw1112432440290953150 : True := trivial
theorem tw10466194854704269026 : True := trivial
theorem tw8786651256095831409 : True := trivial
theorem tw16015131917192854555 : True := trivial
theorem tw4571896787005537667 : True := trivial
theorem tw2538055626703428729 : True := trivial
theorem tw8871878807839818986 : True := trivial
theorem tw13489292265718903962 : True := trivial
theorem tw7734554762367946844 : True := trivial
theorem tw3442583378496017411 : True := trivial
theorem tw5401924757984332540 : True := trivial
theorem tw2722252765168252903 : True := trivial
theorem tw9939362566394693229 : True := trivial
theorem tw10825583161636983404 : True := trivial
theorem tw5354390313131801549 : True := trivial
theorem tw16814880461760854545 : True := trivial
theorem tw4284149800304200838 : True := trivial
theorem tw5910839039995838125 : True := trivial
theorem tw16453612440311889411 : True := trivial
theorem tw12420819946074642618 : True := trivial
theorem tw15128052093863352866 : True := trivial
theorem tw3960306006817963124 : True := trivial
theorem tw15385895355740875180 : True := trivial
theorem tw3338119508055901472 : True := trivial
theorem tw363855876441708015 : True := trivial
theorem tw119279937244469653 : True := trivial
theorem tw7753282459989846263 : True := trivial
theorem tw14792766263109414273 : True := trivial
theorem tw11105311236898245735 : True := trivial
theorem tw4220485951115205813 : True := trivial
theorem tw5507640343606919120 : True := trivial
theorem tw17512283055270257347 : True := trivial
theorem tw15621152669911794807 : True := trivial
theorem tw11040866340743212639 : True := trivial
theorem tw5247965315076926191 : True := trivial
theorem tw5322542573119201703 : True := trivial
theorem tw6978759215722883889 : True := trivial
theorem tw4841250558611547803 : True := trivial
theorem tw14351908768032196894 : True := trivial
theorem tw2843849348790855464 : True := trivial
theorem tw592030720511400296 : True := trivial
theorem tw1395157113013746375 : True := trivial
theorem tw12712962295764846558 : True := trivial
theorem tw12573405870040890332 : True := trivial
theorem tw17717514199593736333 : True := trivial
theorem tw7860431467941921560 : True := trivial
theorem tw13083586993506997877 : True := trivial
theorem tw1254700900983581268 : True := trivial
theorem tw14537569660883082477 : True := trivial
theorem tw12206905959604443571 : True := trivial
theorem tw4017057441070887832 : True := trivial
theorem tw15574316334649950004 : True := trivial
theorem tw13330939553241436204 : True := trivial
theorem tw12605770700746537364 : True := trivial
theorem tw2805549578783607883 : True := trivial
theorem tw16433314168455050745 : True := trivial
theorem tw9272863153264121807 : True := trivial
theorem tw3402780869250788744 : True := trivial
theorem tw6658741930640758657 : True := trivial
theorem tw13420952166049760254 : True := trivial
theorem tw12814407404441490658 : True := trivial
theorem tw15585007463179401357 : True := trivial
theorem tw15148507489919589413 : True := trivial
theorem tw15435642497511625612 : True := trivial
theorem tw441205141948547212 : True := trivial
theorem tw1236644572219825246 : True := trivial
theorem tw14647452835390586022 : True := trivial
theorem tw14048385828086057057 : True := trivial
theorem tw18187127736684491379 : True := trivial
theorem tw18130651816398010280 : True := trivial
theorem tw18221592772852887632 : True := trivial
theorem tw3986208631065035163 : True := trivial
theorem tw16529478104356404489 : True := trivial
theorem tw507567866836460556 : True := trivial
theorem tw8469263868949304077 : True := trivial
theorem tw12288125049083770203 : True := trivial
theorem tw1500452235501863618 : True := trivial
theorem tw16266963337508447616 : True := trivial
theorem tw10143544321217069080 : True := trivial
theorem tw4502500389371887726 : True := trivial
theorem tw8580002730233141869 : True := trivial
theorem tw14024206053079178086 : True := trivial
theorem tw15057800185446856844 : True := trivial
theorem tw12872423307084006466 : True := trivial
theorem tw16604486684826611143 : True := trivial
theorem tw841612550533092012 : True := trivial
theorem tw16249084210762313058 : True := trivial
theorem tw9774168937669302572 : True := trivial
theorem tw941342372429856562 : True := trivial
theorem tw908565207031235623 : True := trivial
theorem tw9974692855165131154 : True := trivial
theorem tw9522631221792012508 : True := trivial
theorem tw15689914357998875766 : True := trivial
theorem tw2741641395625092590 : True := trivial
theorem tw12695961410275661510 : True := trivial
theorem tw9289680301141343309 : True := trivial
theorem tw16030265862236620830 : True := trivial
theorem tw11496063498971921727 : True := trivial
theorem tw12288301251881215780 : True := trivial
theorem tw10705116148076187399 : True := trivial
theorem tw16711482683272497050 : True := trivial
theorem tw11583931677022681472 : True := trivial
theorem tw1870475304414126310 : True := trivial
theorem tw12094777895413961499 : True := trivial
theorem tw4955013790671269905 : True := trivial
theorem tw13512111177326410191 : True := trivial
theorem tw8926933053451787208 : True := trivial
theorem tw14442745666529651611 : True := trivial
theorem tw17604132681176805733 : True := trivial
theorem tw2436610251543685360 : True := trivial
theorem tw15381542401718563909 : True := trivial
theorem tw5668233690368320585 : True := trivial
theorem tw1162685363410262185 : True := trivial
theorem tw12378590633735794250 : True := trivial
theorem tw6613361238100156960 : True := trivial
theorem tw4123898652122505279 : True := trivial
theorem tw17254524644803496342 : True := trivial
theorem tw1534021525262171752 : True := trivial
theorem tw13243251306377209186 : True := trivial
theorem tw11880649474137429212 : True := trivial
theorem tw17811387496516782549 : True := trivial
theorem tw12881627831050442519 : True := trivial
theorem tw17773502921041167951 : True := trivial
theorem tw17035986193646749467 : True := trivial
theorem tw3406622294511039287 : True := trivial
theorem tw4110468413711668129 : True := trivial
theorem tw7296496804993611334 : True := trivial
theorem tw5441002618279855920 : True := trivial
theorem tw4489327178460707556 : True := trivial
theorem tw6115405217340793215 : True := trivial
theorem tw6403260649462676624 : True := trivial
theorem tw18421795492389133250 : True := trivial
theorem tw17012360498543359637 : True := trivial
theorem tw8209268136106578516 : True := trivial
theorem tw11078726094971981324 : True := trivial
theorem tw18038616163623419817 : True := trivial
theorem tw5905462235840941009 : True := trivial
theorem tw5940419219529424562 : True := trivial
theorem tw838466917871938129 : True := trivial
theorem tw4453335906974560944 : True := trivial
theorem tw134954766515769538 : True := trivial
theorem tw11326566098342733730 : True := trivial
theorem tw2436173159239749594 : True := trivial
theorem tw3864900637774184017 : True := trivial
theorem tw7463924962630199725 : True := trivial
theorem tw9392188680194692777 : True := trivial
theorem tw11354787740519162655 : True := trivial
theorem tw2158564619044486407 : True := trivial
theorem tw15244398499123519882 : True := trivial
theorem tw3484430069938384563 : True := trivial
theorem tw15660803148431175821 : True := trivial
theorem tw1951708760965505099 : True := trivial
theorem tw8459451049225634612 : True := trivial
theorem tw14287559014764936264 : True := trivial
theorem tw15545631240792981201 : True := trivial
theorem tw1790231867800957264 : True := trivial
theorem tw16301034831562145919 : True := trivial
theorem tw5625640847328726798 : True := trivial
theorem tw10643070350971223049 : True := trivial
theorem tw4355163583298223225 : True := trivial
theorem tw13253536934675949616 : True := trivial
theorem tw10487178529960989109 : True := trivial
theorem tw10630371365374059290 : True := trivial
theorem tw3006101514526077952 : True := trivial
theorem tw16347968797532416162 : True := trivial
theorem tw12391369172805720617 : True := trivial
theorem tw18350048189795161744 : True := trivial
theorem tw7225816392682743879 : True := trivial
theorem tw3768584376582029023 : True := trivial
theorem tw3984807459730117674 : True := trivial
theorem tw2600166221201744822 : True := trivial
theorem tw9394702885071683427 : True := trivial
theorem tw17139164131646106321 : True := trivial
theorem tw10927967706647737962 : True := trivial
theorem tw14648080091191765094 : True := trivial
theorem tw256992119812707538 : True := trivial
theorem tw1103914748678709360 : True := trivial
theorem tw1154639866261466867 : True := trivial
theorem tw16067728050922948757 : True := trivial
theorem tw18332171334289038723 : True := trivial
theorem tw3787388201093073319 : True := trivial
theorem tw14158017350825015052 : True := trivial
theorem tw15995104076399422089 : True := trivial
theorem tw16876233441053813200 : True := trivial
theorem tw11959135516377281791 : True := trivial
theorem tw2898945862117469167 : True := trivial
theorem tw2986994460798838940 : True := trivial
theorem tw9059726396842173904 : True := trivial
theorem tw4331786847376168014 : True := trivial
theorem tw2736792463094433846 : True := trivial
theorem tw14971759200864486819 : True := trivial
theorem tw9903347926412327266 : True := trivial
theorem tw7500819143446276485 : True := trivial
theorem tw16131811748084369777 : True := trivial
theorem tw3172173366739680320 : True := trivial
theorem tw9618533563879826667 : True := trivial
theorem tw8700449100373391423 : True := trivial
theorem tw8868433545102604600 : True := trivial
theorem tw13613721033597336256 : True := trivial
theorem tw1366563755880097245 : True := trivial
theorem tw11678474748230676399 : True := trivial
theorem tw1546855954430054753 : True := trivial
theorem tw17961438409666067177 : True := trivial
theorem tw17419617672256211195 : True := trivial
theorem tw487810419529921453 : True := trivial
theorem tw7404129657456113167 : True := trivial
theorem tw14043857940150922347 : True := trivial
theorem tw9213732636527106881 : True := trivial
theorem tw10990897202183396482 : True := trivial
theorem tw4724734638243889084 : True := trivial
theorem tw4299628499627341021 : True := trivial
theorem tw1508004715153677689 : True := trivial
theorem tw9445258566200729967 : True := trivial
theorem tw8049725091573454424 : True := trivial
theorem tw11624163962340393137 : True := trivial
theorem tw17088941660899594472 : True := trivial
theorem tw12288989863036050971 : True := trivial
theorem tw16369146628676843633 : True := trivial
theorem tw17706098202826808156 : True := trivial
theorem tw12858433484013241501 : True := trivial
theorem tw18144305500272918866 : True := trivial
theorem tw2548453692333113750 : True := trivial
theorem tw496441410357397720 : True := trivial
theorem tw12808300254179718948 : True := trivial
theorem tw1759083158809553168 : True := trivial
theorem tw18141588594380694785 : True := trivial
theorem tw4469939435422276906 : True := trivial
theorem tw16337048957167779946 : True := trivial
theorem tw1238632800816758376 : True := trivial
theorem tw4454859625592928220 : True := trivial
theorem tw13752741950606648321 : True := trivial
theorem tw9238193135115960448 : True := trivial
theorem tw17914074033086277808 : True := trivial
theorem tw13913138635120592619 : True := trivial
theorem tw5639252044599959669 : True := trivial
theorem tw12185413113722945179 : True := trivial
theorem tw3028251226965628128 : True := trivial
theorem tw3472756259223829486 : True := trivial
theorem tw10181548418836444792 : True := trivial
theorem tw1509283737830428427 : True := trivial
theorem tw11582381722869288830 : True := trivial
theorem tw12225727384030258539 : True := trivial
theorem tw2572281926442709266 : True := trivial
theorem tw3582084749999389867 : True := trivial
theorem tw3528485589127651543 : True := trivial
theorem tw8592764052368550293 : True := trivial
theorem tw11065600628911785418 : True := trivial
theorem tw3660616359864366327 : True := trivial
theorem tw37365966512650126 : True := trivial
theorem tw8957769896352990170 : True := trivial
theorem tw9209557425617891449 : True := trivial
theorem tw8659117892013513142 : True := trivial
theorem tw16916109257933854507 : True := trivial
theorem tw512960073327095053 : True := trivial
theorem tw7959537385419413551 : True := trivial
theorem tw3082818523703816720 : True := trivial
theorem tw359641712356834610 : True := trivial
theorem tw8709147890637667731 : True := trivial
theorem tw12839077725776548587 : True := trivial
theorem tw197521102728475231 : True := trivial
theorem tw998775591302024515 : True := trivial
theorem tw15466302123289507523 : True := trivial
theorem tw9246586836479756027 : True := trivial
theorem tw11327235352500533293 : True := trivial
theorem tw11010543660408760067 : True := trivial
theorem tw6582876961131087885 : True := trivial
theorem tw18194287077588123759 : True := trivial
theorem tw14015307545017135326 : True := trivial
theorem tw13153703533243082605 : True := trivial
theorem tw1019379532805395100 : True := trivial
theorem tw18089318933617498 : True := trivial
theorem tw15465307283608589470 : True := trivial
theorem tw6591856187617530478 : True := trivial
theorem tw12627147640233081345 : True := trivial
theorem tw13444659773987883397 : True := trivial
theorem tw918615631391301923 : True := trivial
theorem tw5703679107502939512 : True := trivial
theorem tw5903265195519159422 : True := trivial
theorem tw17055744570306681213 : True := trivial
theorem tw2577379184663798264 : True := trivial
theorem tw6218054707471041290 : True := trivial
theorem tw14843309367682139768 : True := trivial
theorem tw12584739249520438458 : True := trivial
theorem tw10511742525059314427 : True := trivial
theorem tw14539660885644107207 : True := trivial
theorem tw11957007984649436964 : True := trivial
theorem tw15757802869235852758 : True := trivial
theorem tw12279293725220574693 : True := trivial
theorem tw8285324311374148906 : True := trivial
theorem tw3858222120175958945 : True := trivial
theorem tw14259902874818851705 : True := trivial
theorem tw14602044979926339331 : True := trivial
theorem tw10859988787278344482 : True := trivial
theorem tw14155091476500689304 : True := trivial
theorem tw14909029901267703231 : True := trivial
theorem tw2267514856531800822 : True := trivial
theorem tw17920153951123615445 : True := trivial
theorem tw17683274812826350343 : True := trivial
theorem tw13441832442091713327 : True := trivial
theorem tw2592855046794875421 : True := trivial
theorem tw12204202440213168744 : True := trivial
theorem tw11586450843823554319 : True := trivial
theorem tw13072454864276257829 : True := trivial
theorem tw971146892964973265 : True := trivial
theorem tw3366579855867050871 : True := trivial
theorem tw6851845064448849811 : True := trivial
theorem tw3924415788938388763 : True := trivial
theorem tw10337379535733999967 : True := trivial
theorem tw12812955932795103988 : True := trivial
theorem tw7076985968797666081 : True := trivial
theorem tw1719426454457910352 : True := trivial
theorem tw9721288901711403199 : True := trivial
theorem tw10675439978626896003 : True := trivial
theorem tw6819832974335610564 : True := trivial
theorem tw14405879133863826978 : True := trivial
theorem tw12934613452310320634 : True := trivial
theorem tw4857154452178336623 : True := trivial
theorem tw16215043390018335377 : True := trivial
theorem tw9292061780299148139 : True := trivial
theorem tw15197785201012547021 : True := trivial
theorem tw6771166490666433235 : True := trivial
theorem tw15001984734224344851 : True := trivial
theorem tw9682850989555004874 : True := trivial
theorem tw10641539100523461719 : True := trivial
theorem tw1172953677893870328 : True := trivial
theorem tw7242981142895633186 : True := trivial
theorem tw10250710779572022163 : True := trivial
theorem tw8052610770704994573 : True := trivial
theorem tw10494674339341560961 : True := trivial
theorem tw7074374847457504244 : True := trivial
theorem tw14402359460045509373 : True := trivial
theorem tw4531678115708070158 : True := trivial
theorem tw3602008633986715777 : True := trivial
theorem tw4023472844236544639 : True := trivial
theorem tw11720359790281947700 : True := trivial
theorem tw11340046619581490589 : True := trivial
theorem tw11934455159677575894 : True := trivial
theorem tw5324191193671832959 : True := trivial
theorem tw2502127060234359917 : True := trivial
theorem tw17166189661839443173 : True := trivial
theorem tw14403773113120687175 : True := trivial
theorem tw5815867938009591033 : True := trivial
theorem tw6535136611661804841 : True := trivial
theorem tw9910462236240539888 : True := trivial
theorem tw2517352474360359709 : True := trivial
theorem tw13181099831595765779 : True := trivial
theorem tw679162052017848466 : True := trivial
theorem tw10064676013320090811 : True := trivial
theorem tw5675541057191261453 : True := trivial
theorem tw4717624398268642410 : True := trivial
theorem tw5294571939355447682 : True := trivial
theorem tw3411747871607737926 : True := trivial
theorem tw635546385970746878 : True := trivial
theorem tw7508316038546292591 : True := trivial
theorem tw13179386040805674851 : True := trivial
theorem tw5079417704713546720 : True := trivial
theorem tw15569472186382269572 : True := trivial
theorem tw12981964126131116332 : True := trivial
theorem tw16486661334491845735 : True := trivial
theorem tw7127804748103991538 : True := trivial
theorem tw9667831562410167071 : True := trivial
theorem tw969946752720994551 : True := trivial
theorem tw14773804603111940377 : True := trivial
theorem tw6481542510919912933 : True := trivial
theorem tw5298460239706531401 : True := trivial
theorem tw6284651067012326034 : True := trivial
theorem tw11350339065429561762 : True := trivial
theorem tw601956958628539237 : True := trivial
theorem tw15296448089635503316 : True := trivial
theorem tw6004204763996079013 : True := trivial
theorem tw8041450462841205187 : True := trivial
theorem tw15362049598277700017 : True := trivial
theorem tw12220209957249345909 : True := trivial
theorem tw3274715859081815027 : True := trivial
theorem tw3684207875679783871 : True := trivial
theorem tw16667141368403171193 : True := trivial
theorem tw11467050558551923028 : True := trivial
theorem tw17714785602582915184 : True := trivial
theorem tw14195548286823931590 : True := trivial
theorem tw8004361303258066419 : True := trivial
theorem tw13085829706499001918 : True := trivial
theorem tw14886131959315048046 : True := trivial
theorem tw17067351952115072251 : True := trivial
theorem tw1291121305848633198 : True := trivial
theorem tw1882777599434575691 : True := trivial
theorem tw8798154475735139676 : True := trivial
theorem tw9377873862277278043 : True := trivial
theorem tw15159162578402540251 : True := trivial
theorem tw10174277101879052667 : True := trivial
theorem tw11749837008687592162 : True := trivial
theorem tw10728320398407284022 : True := trivial
theorem tw65684622877806501 : True := trivial
theorem tw3974225296601420743 : True := trivial
theorem tw6421735108126470113 : True := trivial
theorem tw10818360249672684312 : True := trivial
theorem tw11916305004168231952 : True := trivial
theorem tw3669615123174476769 : True := trivial
theorem tw6832939685687819384 : True := trivial
theorem tw14515385154207067959 : True := trivial
theorem tw16220166812930713958 : True := trivial
theorem tw5495722284893708460 : True := trivial
theorem tw3590219243073539181 : True := trivial
theorem tw7464682692864070170 : True := trivial
theorem tw13634451960841480205 : True := trivial
theorem tw11657239813311316961 : True := trivial
theorem tw1210801533688174505 : True := trivial
theorem tw17715083137670456009 : True := trivial
theorem tw17447482237797296232 : True := trivial
theorem tw13968001496243876104 : True := trivial
theorem tw16136052961797317586 : True := trivial
theorem tw3453558113719156237 : True := trivial
theorem tw586301072328803423 : True := trivial
theorem tw10777075266448674146 : True := trivial
theorem tw13912904596894667100 : True := trivial
theorem tw14289951865956338840 : True := trivial
theorem tw11100278599111332840 : True := trivial
theorem tw14635503997775626478 : True := trivial
theorem tw1531164479157405319 : True := trivial
theorem tw15679553302411990707 : True := trivial
theorem tw7682422374895307877 : True := trivial
theorem tw3206920713104358458 : True := trivial
theorem tw6186196941266420867 : True := trivial
theorem tw5732763782327933425 : True := trivial
theorem tw8140670048918483220 : True := trivial
theorem tw13940277876900350353 : True := trivial
theorem tw9391503927930986650 : True := trivial
theorem tw950256282175357551 : True := trivial
theorem tw5225178879196435606 : True := trivial
theorem tw494149727425605539 : True := trivial
theorem tw16362260101686482753 : True := trivial
theorem tw10423518226600471366 : True := trivial
theorem tw2652989646205692184 : True := trivial
theorem tw6582456886007087742 : True := trivial
theorem tw16095660794969276261 : True := trivial
theorem tw13726999738061012848 : True := trivial
theorem tw15329182852991476776 : True := trivial
theorem tw12376265630506638430 : True := trivial
theorem tw9897640479543314640 : True := trivial
theorem tw11830698398973932008 : True := trivial
theorem tw4434989214027808177 : True := trivial
theorem tw10230843344114125144 : True := trivial
theorem tw10738550233228697121 : True := trivial
theorem tw8609481196194504336 : True := trivial
theorem tw16241005264952610280 : True := trivial
theorem tw12811224562361862230 : True := trivial
theorem tw9380458158388313044 : True := trivial
theorem tw11224198863788478087 : True := trivial
theorem tw6885266038598555039 : True := trivial
theorem tw8725063932825185421 : True := trivial
theorem tw13112429270106347165 : True := trivial
theorem tw8364755718292633632 : True := trivial
theorem tw18266180021992037938 : True := trivial
theorem tw12457217914958072703 : True := trivial
theorem tw8054748762966450064 : True := trivial
theorem tw16159843774800805393 : True := trivial
theorem tw15668911777436506784 : True := trivial
theorem tw14476560034906059905 : True := trivial
theorem tw12558375867081054761 : True := trivial
theorem tw9589502769467042652 : True := trivial
theorem tw16020625092520562052 : True := trivial
theorem tw10384561879253997051 : True := trivial
theorem tw4104311194055157161 : True := trivial
theorem tw16745087302767291202 : True := trivial
theorem tw10968258381150983353 : True := trivial
theorem tw17129380404407012196 : True := trivial
theorem tw17676267222800762541 : True := trivial
theorem tw3073819569082423147 : True := trivial
theorem tw13776065858990843879 : True := trivial
theorem tw11738956398335081837 : True := trivial
theorem tw11240693558829928987 : True := trivial
theorem tw12600927798358362971 : True := trivial
theorem tw9446048355567872825 : True := trivial
theorem tw15539198942866174217 : True := trivial
theorem tw14747606551056963186 : True := trivial
theorem tw14414936774928337894 : True := trivial
theorem tw11132581520082418264 : True := trivial
theorem tw12623797904937634822 : True := trivial
theorem tw15509816728841030843 : True := trivial
theorem tw12533464306400221411 : True := trivial
theorem tw11571091177776114432 : True := trivial
theorem tw15172538022699066086 : True := trivial
theorem tw5382898291082362704 : True := trivial
theorem tw15297911696710249723 : True := trivial
theorem tw2691430682303329829 : True := trivial
theorem tw446814046046003392 : True := trivial
theorem tw16423225913102811525 : True := trivial
theorem tw12216707759976574903 : True := trivial
theorem tw12858178648665318408 : True := trivial
theorem tw12475176667531416409 : True := trivial
theorem tw5797773171951888095 : True := trivial
theorem tw16648608153847890446 : True := trivial
theorem tw18416987728399808457 : True := trivial
theorem tw4371515754596022024 : True := trivial
theorem tw7932208701058472564 : True := trivial
theorem tw15691117726646612809 : True := trivial
theorem tw4641708450397685280 : True := trivial
theorem tw1721792239318864179 : True := trivial
theorem tw14832977649641484496 : True := trivial
theorem tw2280249686950977250 : True := trivial
theorem tw996215348554216629 : True := trivial
theorem tw1291199137210378030 : True := trivial
theorem tw13174760859545632712 : True := trivial
theorem tw6487436138205928939 : True := trivial
theorem tw12401241547575018881 : True := trivial
theorem tw13030585114392960451 : True := trivial
theorem tw1731452901129517552 : True := trivial
theorem tw8403676927930646716 : True := trivial
end hd
set_option Elab.async true in
theorem hd : Z0.A.1 → PySem.Challenge.rw_pb0123_01.Holds := by
  intro h
  w_on
  o_law
  rename_i said
  have k := And.intro said h
  clear said h
  k_head
  case hw => w_witness2
  exact (k.2 : _)
end Z1
end
-- F35
section
section
variable {prog : Program} {w : World} {mg mb : Str → Option Value} {p : Program} {loose : List Str} {A : Around} {E : Value → Shared → Prop}
  {g h : Heap} {mu : List (Addr × Obj)} {gs : Array GenState} {dr : Drawn} {tk : Nat} {os : OsState}
theorem ns_at {h : Heap} {P : Addr → Bool} {a : Addr} {m : Str → Option Value} (x : h.Ns a m) (hP : P a = true) : (restrict h P).Ns a m := by
  obtain ⟨o, es, ep, e, r⟩ := x
  exact ⟨o, es, ep, by rw [restrict_get, if_pos hP]; exact e, r⟩
theorem restrict_sub {h : Heap} {P : Addr → Bool} : Sub (restrict h P) h := fun b o e => by
  rw [restrict_get] at e
  split at e
  · exact e
  · cases e
theorem items_ints {R : WRecords} {cl : Str → Option Addr} {h : Heap} : ∀ {xs : List WData} {vs : List Value} {as : List Addr}, WShape.hasItems R xs .int = true → ReadsAllW R cl h vs xs as → ∃ ns, IntsAre vs ns ∧ ns.length = xs.length
  | [], _, _, _, .nil => ⟨[], .nil, rfl⟩
  | x :: xs, _, _, hx, .cons r1 r2 => by
    have hx : WShape.has R x .int = true ∧ WShape.hasItems R xs .int = true := by simpa [WShape.hasItems] using hx
    obtain ⟨i, rfl⟩ := hasW_int hx.1
    obtain ⟨ns, a, b⟩ := items_ints hx.2 r2
    cases r1
    exact ⟨i :: ns, .cons _ _ a, by simp [b]⟩
noncomputable abbrev theRow := PySem.Challenge.rw_pb0123_01.row.toRowW
theorem pre_ints {args : List WData} {vals : List Value} {as : List Addr} {cl : Str → Option Addr} {h : Heap} (hpre : theRow.claim.pre args = true) (hrd : ReadsAllW theRow.records cl h vals args as) :
    ∃ sc vs ns, vals = [.ref sc] ∧ h.IsList sc (List.toArray vs) ∧ IntsAre vs ns ∧ ns.length ≤ 63 := by
  obtain ⟨h1, h2⟩ := pre_splitW hpre
  obtain ⟨d, r, rfl, h3, h4⟩ := hasAllW_cons h1
  obtain rfl := hasAllW_nil h4
  obtain ⟨xs, rfl, h5⟩ := hasW_list h3
  cases hrd with
  | cons r1 r2 =>
    cases r2
    cases r1 with
    | @list a o vs n _ as' e1 e2 e3 e4 =>
      obtain ⟨ns, i1, i2⟩ := items_ints h5 e4
      refine ⟨a, vs.toList, ns, rfl, ⟨o, e1, e2, n, by rw [e3]⟩, i1, ?_⟩
      rw [i2]
      have h2 : WTm.holds [] (.and (.not (.lt (.lit (.int 63)) (.len (.arg 0)))) (.lit (.bool true))) { args := [.list xs] } = true := h2
      by_cases q : (63 : Int) < xs.length
      · exfalso
        have e : less? (WData.int 63) (WData.int xs.length) = some true := by
          show some (decide ((63 : Int) < xs.length)) = some true
          rw [decide_eq_true q]
        unfold WTm.holds at h2
        have v : WTm.value [] (.and (.not (.lt (.lit (.int 63)) (.len (.arg 0)))) (.lit (.bool true))) { args := [.list xs] } = some (.bool false) := by
          simp [WTm.value, e]
        rw [v] at h2
        cases h2
      · omega

theorem good_true {args : List WData} {cl : Str → Option Addr} {mean : ExcName → Option Value} {s₁ s' : Shared} (hK : OldK s₁.heap s'.heap) (hos : s'.os = s₁.os) (hg : AllBare s'.gens) : GoodWG theRow.claim cl mean args s₁ (.ok (.ret (.bool true))) s' := by
  refine ⟨.inl ⟨.bool true, .bool true, [], rfl, fun _ => rfl, .bool true, ?_, fun _ => ⟨List.nodup_nil, fun a ha => nomatch ha⟩⟩, hK, hos, hg⟩
  show (WShape.has [] (.bool true) .bool && WTm.holds [] (.eq .res (.lit (.bool true))) { args := args, res := some (.bool true), after := args }) = true
  rw [show WShape.has [] (.bool true) .bool = true by simp [WShape.has, WShape.arms], Bool.true_and]
  have : WTm.value [] (.eq .res (.lit (.bool true))) { args := args, res := some (.bool true), after := args } = some (.bool true) := by
    simp [WTm.value, PySem.W.same]
  unfold WTm.holds
  rw [this]

theorem oldK_of {h h' : Heap} {tab : Array Value} (X : (KK w).In h) (h0 : h.get? 543 = some (tabObj #[])) (h1 : h'.get? 543 = some (tabObj tab)) (fr : ∀ b o, h.get? b = some o → b ≠ 543 → h'.get? b = some o) : OldK h h' := by
  refine ⟨fun b o e => ?_, fun b o e => ?_⟩
  · by_cases q : b = 543
    · subst q
      rw [h0] at e
      cases e
      have hT : h.TableAt 545 543 #[] := ⟨?_, h0⟩
      · exact .inr (.inl ⟨hT.isCodeTable, rfl, #[], tab, rfl, by rw [h1]; simp [tabObj]⟩)
      · obtain ⟨o, vs, _, _, _, _, _, _, _, a, b, c, d, _⟩ := codeHd_of_K (c := 545) (P := 543) X (by kernel_rfl!)
        exact ⟨o, vs, a, b, c, d⟩
    · exact .inl (fr b o e q)
  · by_cases q : b = 543
    · subst q; exact ⟨_, h1⟩
    · exact ⟨o, fr b o e q⟩
theorem the_law : PySem.Challenge.rw_pb0123_01.Holds := by
  refine Z1.hd ?_
  show WalkOC _ _ _ _ _ _ _
  intro w s₀ s₁ mg mb G Y a o pm cd doc dV kV h1 h2 h3 h4 h5 h6 args vals as hpre hlay hrd hwell hlow
  obtain ⟨sc, vs, ns, rfl, hl, hi, hz⟩ := pre_ints hpre hrd
  have X : (KK w).In s₁.heap := Y.1
  have h0 : s₁.heap.get? 543 = some (tabObj #[]) := Y.2 543 (.head _)
  refine ⟨good_true (.refl _) rfl (.of_eq h6), ?_⟩
  obtain ⟨lo, T⟩ : ∃ lo, TopRead Z0.A.view_1 lo mg mb s₁.heap := ⟨_, topRead_of G.T⟩
  have e563 := mg_of X T.g (g_law (w := w))
  have ea : a = 563 := by
    have h5 : mg "law" = some (.ref a) := h5
    rw [e563] at h5
    cases h5
    rfl
  subst ea
  obtain ⟨hp, gens, dr, tk, os⟩ := s₁
  let g : Heap := restrict hp fun b => b != 543
  have sg : Sub g hp := restrict_sub
  have gat : ∀ {b o}, hp.get? b = some o → b ≠ 543 → g.get? b = some o := fun {b o} e q => by
    show (restrict hp fun b => b != 543).get? b = some o
    rw [restrict_get, if_pos (by simpa using q)]
    exact e
  have g543 : g.get? 543 = none := by
    show (restrict hp fun b => b != 543).get? 543 = none
    rw [restrict_get, if_neg (by decide)]
  have CX : Cx w mg mb Z0.A.view_1 lo g := by
    refine ⟨fun a o e => gat (X a o e) fun q => ?_, ⟨ns_at T.g (by decide), ns_at T.b (by decide), ?_, T.builtins, T.free⟩⟩
    · subst q
      have : (KK w).lookup 543 = none := by kernel_rfl!
      rw [this] at e; cases e
    · obtain ⟨mc, a, b⟩ := T.nolimit
      exact ⟨mc, ns_at a (by decide), b⟩
  have B : g.BuiltinsAt mg 543 := by
    obtain ⟨bm, ob, b1, b2, b3, b4, b5, b6⟩ := G.T.bmain
    have n1 : bm ≠ 543 := fun q => by
      have e : hp.get? 543 = some ob := q ▸ b3
      rw [h0] at e
      cases e
      cases b4
    have n2 : bm ≠ mainGlobals := fun q => by
      obtain ⟨o, es, ep, e, hd', _⟩ := T.g
      have e3 : hp.get? mainGlobals = some ob := q ▸ b3
      rw [e] at e3
      cases e3
      rw [b6] at hd'
      cases hd'
    exact ⟨bm, ob, b1, b2, n2, n1, gat b3 n1, b4, b5, b6⟩
  have ow : Own g hp [(543, tabObj #[])] := ⟨sg, fun q hq => by rw [List.mem_singleton.mp hq]; exact ⟨h0, g543⟩, by simp⟩
  have hl' : g.IsList sc vs.toArray := by
    obtain ⟨o, e1, e2, n, e3⟩ := hl
    refine ⟨o, gat e1 fun q => ?_, e2, n, e3⟩
    subst q
    rw [h0] at e1
    cases e1
    cases e2
  have rm : Rm callerA (0 + 30) := ⟨by decide, by decide, rfl⟩
  refine law_spec (mg := mg) CX B ow rm hl' hi hz fun g' h' tk' tab sp ow' => ?_
  refine good_true (oldK_of X h0 (ow'.mem _ (.head _)).1 fun b o e q => sp.frame b o e (by simpa using q)) rfl (.of_eq h6)
end
end
end Mine
theorem PySem.Challenge.cw_pb0123_01_holds : PySem.Challenge.rw_pb0123_01.Holds := by
  exact Mine.the_law
