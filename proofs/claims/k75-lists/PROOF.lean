import PyProof.Rows.All
import HandS.ForMost
import HandS.ForExc
import HandS.Lambda
import HandS.ExcCtx
import HandS.HotCalls
import HandS.SuiteRaise
import HandS.RaiseFrom
import HandS.ExcInit
import HandS.Finally
import HandS.TupAny
import HandS.Wide
import HandS.Deep
import HandS.IsInst
import HandS.Conv
import HandS.FStr
import HandS.Star
import HandS.Property
import HandS.Defaults
import HandS.ClsMeth
import KE.GoesEnum
import HandS.HeadNt
import HandS.HeadEnd
import HandS.Head0
import HandS.Head1
import HandS.Head2
import HandS.HeadHook1
import HandS.HeadHook2
import HandS.HeadHook3
import HandS.Style
import HandS.DictComp
import KE.GoesZip
import HandS.EndTab
import HandS.HeadHook4
import HandS.TupLe
import HandS.TupMul
import PyProof.InstEq
import PyProof.FactsAll.object_2
import HandS.New0
import HandS.Text
import HandS.Exc
import KE.KStar
import KE.KExcSuper
import KE.KSuper
import KE.KTryMore
import HandS.ExcField
import KE.KAssignIn
import PyProof.Rows.Range3
import PyProof.Conv_bool
import PyProof.DictUpdate
import PyProof.DictDisplay
import KE.KDictKeyed
import KE.KDictDisplayH
import HandS.TupLen
import KE.SortData
import HandS.ExcInitHot
import HandS.OwnEq
import KE.KDictList
import KE.KUnpackStar
import HandS.ReplaceList
import HandS.ReplaceLit
import KE.SortKeyHeap
import HandS.Keys
import HandS.ExcValue
import KE.KExcIs
import HandS.GenList
import PySem.Challenge.RW_worntally_k75_lists_within_lists
set_option Elab.async false
set_option linter.all false
set_option maxRecDepth 100000
set_option maxHeartbeats 4000000
set_option maxHeartbeats 0 in
theorem Lw.look_first (h : (PySem.W.OpenLaw.row PySem.Challenge.rw_worntally_k75_lists_within_lists).wellSaid = true → (PySem.W.OpenLaw.row PySem.Challenge.rw_worntally_k75_lists_within_lists).Holds) : PySem.Challenge.rw_worntally_k75_lists_within_lists.Holds := by
  w_on; o_law
  exact h (by assumption)
namespace G
open PySem PySem.Spec PyProof.Rows L2
/-! ### exceptions whose contexts end -/
/-- the contexts from v on: the records of l, one behind the other, then None -/
noncomputable def ChP : List (Addr × Obj) → Value → Prop
  | [], v => v = .none
  | p :: l, v => v = .ref p.1 ∧ ∃ (fv : Array Value) (v1 : Value), p.2.data = .fields fv ∧ fv[2]? = some v1 ∧ ChP l v1
/-- .. and they stand in the ground, out of what is tracked -/
noncomputable def ChL (B : Heap) (H : Hp) (l : List (Addr × Obj)) (v : Value) : Prop := ChP l v ∧ ∀ p ∈ l, B.get? p.1 = some p.2 ∧ H p.1 = none
noncomputable def Zk (B : Heap) (H : Hp) (cls : Value) (d : Option Addr) : Obj → Prop := fun o => (o.cls = cls ∧ o.dict = d) ∧ ∀ fv : Array Value, o.data = .fields fv → ∃ v l, fv[2]? = some v ∧ ChL B H l v
theorem Zk.steady {B : Heap} {H : Hp} {cls : Value} {d : Option Addr} : PySem.PXN.Steady1 (Zk B H cls d) := fun o v h => ⟨⟨PySem.PXN.steady_cls o v h.1.1, PySem.PXN.steady_dict o v h.1.2⟩, fun fv e => by
  obtain ⟨c, dd, dt, sl⟩ := o
  cases dt with
  | fields v0 =>
    have e2 : v0.setIfInBounds 1 v = fv := Data.fields.inj e
    have e3 : (v0.setIfInBounds 1 v)[2]? = v0[2]? := by first | exact Array.getElem?_setIfInBounds_ne (by decide) | simp [Array.getElem?_setIfInBounds]
    rw [← e2, e3]
    exact h.2 v0 rfl
  | _ => first | exact Data.noConfusion e | cases e⟩
theorem Zk.imp {B : Heap} {H H2 : Hp} {cls : Value} {d : Option Addr} {o : Obj} (k : ∀ x, H x = none → H2 x = none) (h : Zk B H cls d o) : Zk B H2 cls d o := ⟨h.1, fun fv e => by
  obtain ⟨v, l, h1, h2, h3⟩ := h.2 fv e
  exact ⟨v, l, h1, h2, fun p hp => ⟨(h3 p hp).1, k _ (h3 p hp).2⟩⟩⟩
/-- an exception in the air of X -/
noncomputable def XE (X : Cx) (W : WX) (u : Value) (s1 : Shared) : Prop :=
  ∃ (a : Addr) (B : Heap) (sI : Shared) (pins : List (Addr × Obj)) (σ : L2.St) (H : Hp) (cls : Value) (d : Option Addr),
    u = .ref a ∧ Inv X pins σ H sI ∧ (∀ b o, sI.heap.get? b = some o → b ∉ frs X.stack → B.get? b = some o) ∧ sI.heap.UpToSlots s1.heap ∧
      Sky B X.stack a (Zk B H cls d) X.env.locals s1.heap ∧ H a = none ∧ s1.os = sI.os ∧ AllBare s1.gens ∧ W cls d σ H
noncomputable def Takes (X : Cx) (W : WX) : Prop := ∀ u s1, XE X W u s1 → X.xe u s1
theorem Takes.imp {X : Cx} {W W' : WX} (t : Takes X W) (h : ∀ c d σ H, W' c d σ H → W c d σ H) : Takes X W' := fun u s1 ⟨a, B, sI, pins, σ, H, cls, d, e, I, z1, z2, z3, z4, z5, z6, w⟩ =>
  t u s1 ⟨a, B, sI, pins, σ, H, cls, d, e, I, z1, z2, z3, z4, z5, z6, h _ _ _ _ w⟩
noncomputable def CXg (P : Program) (w : World) (outer : List PySem.Env) (H : Hp) (s : Shared) (E : XK) (u : Value) (s1 : Shared) : Prop :=
  ∃ (a : Addr) (B : Heap) (H1 : Hp) (cls : Value) (d : Option Addr), u = .ref a ∧ HandSPX.FlyingZ B outer a (Zk B H1 cls d) s1.heap ∧ HOk P w H1 B ∧ UB (frs outer) H H1 s.heap B s1.heap ∧ H1 a = none ∧ s1.os = s.os ∧ AllBare s1.gens ∧ E cls d H1
section
variable {X : Cx} {pins : List (Addr × Obj)} {σ : L2.St} {H : Hp} {sI s s1 : Shared} {B : Heap} {W : WX} {E : XK}
theorem XE.of_call (I : Inv X pins σ H s) (hW : ∀ cls d H1, E cls d H1 → W cls d σ H1) {u : Value} (c : CXg X.prog X.w X.stack H s E u s1) : XE X W u s1 := by
  obtain ⟨a, B, H1, cls, d, rfl, fl, hok, ub, na, os, ag, hE⟩ := c
  obtain ⟨G, g1, g2⟩ := restrict s1.heap fun b => (B.get? b).isSome || decide (b ∈ frs X.stack)
  have stB : B.StaysIn s1.heap := fl.1
  have inB : ∀ b o, B.get? b = some o → G.get? b = some o := fun b o e => by
    rw [g1 b (by simp [e])]; exact stB b o e
  have inF : ∀ b, b ∈ frs X.stack → G.get? b = s1.heap.get? b := fun b m => g1 b (by simp [m])
  have off : ∀ b o, G.get? b = some o → s1.heap.get? b = some o ∧ ((B.get? b).isSome = true ∨ b ∈ frs X.stack) := fun b o e => by
    cases q : ((B.get? b).isSome || decide (b ∈ frs X.stack)) with
    | false => rw [g2 b q] at e; cases e
    | true => rw [g1 b q] at e; exact ⟨e, by simpa [Bool.or_eq_true] using q⟩
  refine ⟨a, B, { s with heap := G, gens := s1.gens, drawn := s1.drawn, toks := s1.toks }, pins, σ, H1, cls, d, rfl, ?_, fun b o e m => ?_, Heap.UpToSlots.of_keeps fun b o e => (off b o e).1, .inr (.inl fl), na, os, ag, hW _ _ _ hE⟩
  · refine I.call (ch := []) ⟨fun b o e n m _ => inB b o (ub.keep b o e n m), fun b o e n m _ => ?_, fun b o e n _ => ub.free b o e n, fun b o e _ => ?_, ub.tups, ub.frzs, ub.tbls⟩ (hok.kept inB) ag (fun _ z => nomatch z)
    · obtain ⟨sl, q⟩ := ub.slot b o e m
      exact ⟨sl, by rw [inF b m]; exact q⟩
    · by_cases m : b ∈ frs X.stack
      · obtain ⟨sl, q⟩ := ub.slot b o e m
        exact ⟨_, by rw [inF b m]; exact q⟩
      · obtain ⟨o2, q⟩ := ub.there b o e m
        exact ⟨o2, inB b o2 q⟩
  · obtain ⟨e2, h⟩ := off b o e
    rcases h with h | h
    · obtain ⟨o2, q⟩ := Option.isSome_iff_exists.mp h
      have z := stB b o2 q
      rw [e2] at z; cases z
      exact q
    · exact absurd h m
theorem XE.mk {a : Addr} {oe : Obj} {fv : Array Value} {cls : Value} {d : Option Addr} (I : Inv X pins σ H sI) (k : ∀ b o, sI.heap.get? b = some o → s1.heap.get? b = some o) (hne : sI.heap.get? a = none) (he : s1.heap.get? a = some oe)
    (hz : Zk (PySem.W.hideAll sI.heap (frs X.stack)) H cls d oe) (hd : oe.data = .fields fv) (h1 : fv[1]? = some .none) (na : H a = none) (os : s1.os = sI.os) (ag : AllBare s1.gens) (w : W cls d σ H) : XE X W (.ref a) s1 := by
  refine ⟨a, PySem.W.hideAll sI.heap (frs X.stack), sI, pins, σ, H, cls, d, rfl, I, fun b o e m => PySem.W.hideAll_get _ e m, Heap.UpToSlots.of_keeps k,
    .inl ⟨fun b o e => k b o (PySem.W.of_hideAll _ e), ?_, ?_, oe, fv, he, hz, hd, h1⟩, na, os, ag, w⟩
  · cases q : (PySem.W.hideAll sI.heap (frs X.stack)).get? a with
    | none => rfl
    | some o =>
      have z := PySem.W.of_hideAll _ q
      rw [hne] at z; cases z
  · exact Heap.FunFrames.of_keeps (fun b o e _ => ⟨o, k b o e, rfl⟩) (funFrames_none I.stack fun b m => PySem.W.hideAll_none _ m)
/-- it leaves the def -/
theorem XE.leave (hs : X.stack = X.env :: X.outer) (hf : X.env.frame = some X.env.locals) (hex : X.ex = []) {E₁ : Value → Shared → Prop} (hW : ∀ cls d σ H, W cls d σ H → E cls d H) {u : Value} (x : XE X W u s1) :
    wpAny (model X.prog X.w) X.A (leaving X.env u) (fun _ s2 => CXg X.prog X.w X.outer X.H_0 X.s_0 E u s2) E₁ s1 := by
  obtain ⟨a, B, sI, pins, σ, H, cls, d, rfl, I, nb, up, sky, na, os, ag, w⟩ := x
  have hfr : X.A.frames = some (X.env :: X.outer) := by rw [I.ok.frames, hs]
  have nst : ∀ b o, X.s_0.heap.get? b = some o → b ∉ X.fs → b ∉ frs X.stack := fun b o e hb hm => by
    rcases List.mem_cons.mp (I.stkSub b hm) with z | z
    · have h1 := Heap.lt_size e
      have h2 := I.ok.above
      rw [z] at h1
      exact absurd (Nat.lt_of_lt_of_le h1 h2) (Nat.lt_irrefl _)
    · exact hb z
  have hx0 : ∀ b, b ∉ X.ex := fun b m => by rw [hex] at m; cases m
  have fin : ∀ h1, HandSPX.FlyingZ B X.outer a (Zk B H cls d) h1 → s1.heap.UpToSlots h1 → CXg X.prog X.w X.outer X.H_0 X.s_0 E (.ref a) { s1 with heap := h1 } := fun h1 fl up1 => by
    refine ⟨a, B, H, cls, d, rfl, fl, I.inGround nb, ⟨fun b o e n m => nb b o (I.base.keep b o e n m (hx0 b)) (nst b o e m), fun b o e m => ?_, fun b o e n => I.base.free b o e n (hx0 b), fun b o e m => ?_, I.base.tups, I.base.frzs, I.base.tbls⟩,
      na, os.trans I.os, ag, hW _ _ _ _ w⟩
    · obtain ⟨_, o0, e0, nf⟩ := I.ok.funs.mem m
      rw [e] at e0; cases e0
      obtain ⟨sl, q1⟩ := I.base.slot b o e (I.ok.frf b m) m (hx0 b)
      obtain ⟨sl2, q2⟩ := up b _ q1 nf
      obtain ⟨sl3, q3⟩ := up1 b _ q2 nf
      exact ⟨sl3, q3⟩
    · obtain ⟨o2, q1⟩ := I.base.there b o e (hx0 b)
      exact ⟨o2, nb b o2 q1 (nst b o e m)⟩
  rw [hs] at sky
  rcases sky with ⟨hB, hn, hl, oe, fv, he, hz, hd, h1⟩ | fl | hd
  · exact PySem.PXN.leaving_firstZ Zk.steady hfr hl hf he hB hn hd h1 hz fin
  · exact PySem.PXN.leaves_onZ Zk.steady hfr hf fl fin
  · exact HandSPX.leaves_heldZ hf hd fin
theorem takes_of (hs : X.stack = X.env :: X.outer) (hf : X.env.frame = some X.env.locals) (hex : X.ex = []) {E₁ : Value → Shared → Prop}
    (hx : X.xe = fun e s2 => wpAny (model X.prog X.w) X.A (leaving X.env e) (fun _ s3 => CXg X.prog X.w X.outer X.H_0 X.s_0 E e s3) E₁ s2) : Takes X (fun cls d _ H => E cls d H) := fun u s2 x => by
  rw [hx]
  exact XE.leave (W := fun cls d _ H => E cls d H) (E := E) hs hf hex (fun _ _ _ _ h => h) x
/-- what a callee lets out is taken -/
noncomputable def PassW (X : Cx) (W : WX) : Prop := ∀ σ : L2.St, PassesAt (CXg X.prog X.w) X σ (WE W σ)
theorem passW (tk : Takes X W) : PassW X W := fun σ pins H s e s2 I c => tk e s2 (XE.of_call I (fun _ _ _ h => h) c)
noncomputable abbrev upW (E : XK) : WX := fun cls d _ H => E cls d H
noncomputable abbrev E0 : WX := fun _ _ _ _ => False
noncomputable abbrev E0k : XK := fun _ _ _ => False
theorem passW0 : PassW X E0 := fun σ pins H s e s2 I c => by
  obtain ⟨a, B, H1, cls, d, _, _, _, _, _, _, _, z⟩ := c
  exact z.elim
end
/-! ### raise where nothing is handled -/
end G
namespace G
open PySem PySem.Spec PyProof.Rows L2
/-! ### data as trees -/
inductive D where
  | non | bl (b : Bool) | int (i : Int) | str (x : Str)
  | tup (ds : List D) | lst (ds : List D)
  | dic (ks vs : List D)
  | ins (c : Nat) (fs : List Str) (ds : List D)
  | clo (n : Nat) (ds : List D)
  /-- a list of the caller's, only read -/
  | scr (ds : List D)
  /-- a class -/
  | cls (c : Nat)
/-- what a function that is handed on says -/
noncomputable abbrev CF0 := List D → Option D
/-- .. or a list of functions that are asked -/
inductive CF where
  | fn (g : CF0)
  | tag
/-- what stands behind the names of classes, of kinds of dicts and closures -/
structure Gam where
  T : List (Addr × Str) := []
  cb : Hp → Hp → Addr → CF0 → Prop := fun _ _ _ _ => False
  cb_mono : ∀ {C C' F F' : Hp} {a : Addr} {f : CF0}, (∀ b o, C b = some o → C' b = some o) → (∀ b o, F b = some o → F' b = some o) → cb C F a f → cb C' F' a f := by intros; assumption
  K : PySem.W.Frag
  cl : Nat → Addr
  xc : Nat → Addr
  dict : Hp → Addr → List D → List V → Prop
  dict_mono : ∀ {F F' : Hp} {a ks vs}, (∀ b o, F b = some o → F' b = some o) → dict F a ks vs → dict F' a ks vs
  clos : Nat → Hp → Addr → List V → Prop
  clos_mono : ∀ {n} {F F' : Hp} {a vs}, (∀ b o, F b = some o → F' b = some o) → clos n F a vs → clos n F' a vs
mutual
noncomputable def Rep (Γ : Gam) (F : Hp) : D → V → Prop
  | .non, v => v = .non
  | .bl b, v => v = .bl b
  | .int i, v => v = .int i
  | .str x, v => v = .str x
  | .tup ds, v => ∃ a vs, v = .ref a ∧ SqT Γ.K F a vs ∧ Reps Γ F ds vs
  | .lst ds, v => ∃ a vs, v = .ref a ∧ F a = some (.lst vs) ∧ Reps Γ F ds vs
  | .dic ks ds, v => ∃ a vs, v = .ref a ∧ Γ.dict F a ks vs ∧ Reps Γ F ds vs
  | .ins c fs ds, v => ∃ a dx l, v = .ref a ∧ F a = some (.ins (Γ.cl c) dx l) ∧ l.map (·.1) = fs ∧ Reps Γ F ds (l.map (·.2))
  | .clo n ds, v => ∃ a vs, v = .ref a ∧ Γ.clos n F a vs ∧ Reps Γ F ds vs
  | .scr ds, v => ∃ a vs, v = .ref a ∧ SqL Γ.K F a vs ∧ Reps Γ F ds vs
  | .cls c, v => v = .ref (Γ.cl c)
noncomputable def Reps (Γ : Gam) (F : Hp) : List D → List V → Prop
  | [], vs => vs = []
  | d :: ds, vs => ∃ v r, vs = v :: r ∧ Rep Γ F d v ∧ Reps Γ F ds r
end
/-- H' has all that H has -/
noncomputable abbrev Ext (H H' : Hp) : Prop := ∀ b o, H b = some o → H' b = some o
theorem Ext.refl (H : Hp) : Ext H H := fun _ _ h => h
theorem Ext.trans {H H1 H2 : Hp} (a : Ext H H1) (b : Ext H1 H2) : Ext H H2 := fun c o h => b c o (a c o h)
theorem Ext.upd {H : Hp} {p : Addr} {o : HO} (h : H p = none) : Ext H (upd H p o) := fun b x e => by
  rw [upd_ne (ne_of_none e h)]; exact e
theorem Ext.rd {H H' : Hp} (e : Ext H H') {a : Addr} {u : HO} (h : Rd H a u) : Rd H' a u := by
  rcases h with h | ⟨o, h⟩
  · exact .inl (e _ _ h)
  · exact .inr ⟨o, e _ _ h⟩
theorem Ext.sqL {K : PySem.W.Frag} {H H' : Hp} (e : Ext H H') {a : Addr} {xs : List V} (h : SqL K H a xs) : SqL K H' a xs := by
  rcases h with h | h
  · exact .inl (e.rd h)
  · exact .inr h
theorem Ext.sqT {K : PySem.W.Frag} {H H' : Hp} (e : Ext H H') {a : Addr} {xs : List V} (h : SqT K H a xs) : SqT K H' a xs := by
  rcases h with h | h
  · exact .inl (e.rd h)
  · exact .inr h
section
variable {Γ : Gam} {F F' : Hp}
mutual
theorem Rep.mono (e : Ext F F') : ∀ {d : D} {v : V}, Rep Γ F d v → Rep Γ F' d v
  | .non, _, h => h
  | .bl _, _, h => h
  | .int _, _, h => h
  | .str _, _, h => h
  | .tup _, _, ⟨a, vs, e1, h, r⟩ => ⟨a, vs, e1, e.sqT h, Reps.mono e r⟩
  | .lst _, _, ⟨a, vs, e1, h, r⟩ => ⟨a, vs, e1, e _ _ h, Reps.mono e r⟩
  | .dic _ _, _, ⟨a, vs, e1, h, r⟩ => ⟨a, vs, e1, Γ.dict_mono e h, Reps.mono e r⟩
  | .ins _ _ _, _, ⟨a, dx, l, e1, h, e2, r⟩ => ⟨a, dx, l, e1, e _ _ h, e2, Reps.mono e r⟩
  | .clo _ _, _, ⟨a, vs, e1, h, r⟩ => ⟨a, vs, e1, Γ.clos_mono e h, Reps.mono e r⟩
  | .scr _, _, ⟨a, vs, e1, h, r⟩ => ⟨a, vs, e1, e.sqL h, Reps.mono e r⟩
  | .cls _, _, h => h
theorem Reps.mono (e : Ext F F') : ∀ {ds : List D} {vs : List V}, Reps Γ F ds vs → Reps Γ F' ds vs
  | [], _, h => h
  | _ :: _, _, ⟨v, r, e1, h, t⟩ => ⟨v, r, e1, Rep.mono e h, Reps.mono e t⟩
end
theorem Reps.len : ∀ {ds : List D} {vs : List V}, Reps Γ F ds vs → ds.length = vs.length
  | [], _, h => by cases h; rfl
  | _ :: _, _, ⟨v, r, e1, _, t⟩ => by subst e1; simp [Reps.len t]
theorem Reps.get : ∀ {ds : List D} {vs : List V} {i : Nat} {d : D}, Reps Γ F ds vs → ds[i]? = some d → ∃ v, vs[i]? = some v ∧ Rep Γ F d v
  | [], _, _, _, _, e => by simp at e
  | _ :: _, _, 0, _, ⟨v, r, e1, h, _⟩, e => by subst e1; simp at e; subst e; exact ⟨v, rfl, h⟩
  | _ :: _, _, i + 1, _, ⟨v, r, e1, _, t⟩, e => by
    subst e1
    obtain ⟨v', h1, h2⟩ := Reps.get (i := i) t (by simpa using e)
    exact ⟨v', by simpa using h1, h2⟩
theorem Reps.append : ∀ {ds es : List D} {vs us : List V}, Reps Γ F ds vs → Reps Γ F es us → Reps Γ F (ds ++ es) (vs ++ us)
  | [], _, _, _, h, g => by cases h; exact g
  | _ :: _, _, _, _, ⟨v, r, e1, h, t⟩, g => by subst e1; exact ⟨v, _, rfl, h, Reps.append t g⟩
theorem Reps.nil : Reps Γ F [] [] := rfl
theorem Reps.cons {d : D} {v : V} {ds : List D} {vs : List V} (h : Rep Γ F d v) (t : Reps Γ F ds vs) : Reps Γ F (d :: ds) (v :: vs) := ⟨v, vs, rfl, h, t⟩
theorem Reps.take : ∀ (n : Nat) {ds : List D} {vs : List V}, Reps Γ F ds vs → Reps Γ F (ds.take n) (vs.take n)
  | 0, _, _, _ => by rw [List.take_zero, List.take_zero]; exact Reps.nil
  | n + 1, [], _, h => by cases h; exact rfl
  | n + 1, _ :: _, _, ⟨v, r, e1, h, t⟩ => by subst e1; exact ⟨v, _, rfl, h, Reps.take n t⟩
theorem Reps.drop : ∀ (n : Nat) {ds : List D} {vs : List V}, Reps Γ F ds vs → Reps Γ F (ds.drop n) (vs.drop n)
  | 0, _, _, h => h
  | n + 1, [], _, h => by cases h; exact rfl
  | n + 1, _ :: _, _, ⟨v, r, e1, h, t⟩ => by subst e1; exact Reps.drop n t
theorem Reps.set : ∀ {ds : List D} {vs : List V} (i : Nat) {d : D} {v : V}, Rep Γ F d v → Reps Γ F ds vs → Reps Γ F (ds.set i d) (vs.set i v)
  | [], _, _, _, _, _, h => by cases h; exact rfl
  | _ :: _, _, 0, _, _, q, ⟨v, r, e1, h, t⟩ => by subst e1; exact ⟨_, _, rfl, q, t⟩
  | _ :: _, _, i + 1, _, _, q, ⟨v, r, e1, h, t⟩ => by subst e1; exact ⟨_, _, rfl, h, Reps.set i q t⟩
theorem Reps.reverse : ∀ {ds : List D} {vs : List V}, Reps Γ F ds vs → Reps Γ F ds.reverse vs.reverse
  | [], _, h => by cases h; exact rfl
  | _ :: _, _, ⟨v, r, e1, h, t⟩ => by
    subst e1
    rw [List.reverse_cons, List.reverse_cons]
    exact Reps.append (Reps.reverse t) (Reps.cons h Reps.nil)
end
/-! ### the state of a def's names -/
/-- an object that one name alone holds -/
inductive Ov where
  | lst (ds : List D)
  | ins (c : Nat) (fs : List Str) (ds : List D)
  | dic (ks vs : List D)
noncomputable def Ov.d : Ov → D
  | .lst ds => .lst ds
  | .ins c fs ds => .ins c fs ds
  | .dic ks vs => .dic ks vs
inductive Sv where
  | no
  | val (d : D)
  /-- b: it was lent by the caller -/
  | own (o : Ov) (b : Bool)
  /-- a function that was handed on -/
  | cb (f : CF)
/-- the object of a dict by its entries -/
noncomputable def dnF (a : Addr) (es : Array DictEntry) (h : Heap) : Prop := ∃ o ep, h.get? a = some o ∧ o.ExactDict ∧ o.data = .dict es ep
/-- a thing of its own kind that is no such dict -/
noncomputable def NE (φ : Heap → Prop) : Prop := ∀ a es, φ ≠ dnF a es
noncomputable def oneH (a : Addr) (o : Obj) : Heap := { objs := (Array.replicate a ({ cls := .none, data := .freed } : Obj)).push o }
theorem oneH_at {a : Addr} {o : Obj} (h : o.data ≠ .freed) : (oneH a o).get? a = some o := by
  unfold Heap.get? oneH
  have e : ((Array.replicate a ({ cls := .none, data := .freed } : Obj)).push o)[a]? = some o := by
    rw [Array.getElem?_push]; simp
  rw [e]
  obtain ⟨c, d, dt, sl⟩ := o
  cases dt <;> first | rfl | exact absurd rfl h
theorem oneH_ne {a b : Addr} {o : Obj} (h : b ≠ a) : (oneH a o).get? b = none := by
  unfold Heap.get? oneH
  have e : ((Array.replicate a ({ cls := .none, data := .freed } : Obj)).push o)[b]? = if b < a then some { cls := .none, data := .freed } else none := by
    rw [Array.getElem?_push]
    simp only [Array.size_replicate, Array.getElem?_replicate]
    rw [if_neg h]
  rw [e]
  by_cases q : b < a
  · rw [if_pos q]
  · rw [if_neg q]
theorem dnF_one {a : Addr} {es : Array DictEntry} {ep : Nat} : dnF a es (oneH a { cls := .type "dict", data := .dict es ep }) := ⟨_, ep, oneH_at (fun e => Data.noConfusion e), ⟨rfl, rfl, rfl⟩, rfl⟩
theorem ne_data {φ : Heap → Prop} {a : Addr} (h : ∀ hp, φ hp → ∃ o, hp.get? a = some o ∧ ∀ es ep, o.data ≠ .dict es ep) : NE φ := fun b es e => by
  have h0 := dnF_one (a := b) (es := es) (ep := 0)
  rw [← e] at h0
  obtain ⟨o, h1, h2⟩ := h _ h0
  by_cases q : a = b
  · subst q
    rw [oneH_at (fun e => Data.noConfusion e)] at h1
    cases h1
    exact h2 es 0 rfl
  · rw [oneH_ne q] at h1
    cases h1
theorem ne_code {c : Addr} {q : Str} {φ : Heap → Prop} (e : LamX.CodeO c q = .ext φ) : NE φ := by
  cases e
  exact ne_data (a := c) fun hp ⟨oc, vs, t, h1, h2, _⟩ => ⟨oc, h1, fun es ep z => by rw [h2] at z; cases z⟩
/-- no table, no thing of its own kind but dicts by their entries -/
noncomputable def NX (o : HO) : Prop := (∀ ps, o ≠ .tbl ps) ∧ ∀ φ, NE φ → o ≠ .ext φ
theorem nx_dn {a : Addr} {es : Array DictEntry} : NX (.ext (dnF a es)) := ⟨fun _ e => HO.noConfusion e, fun φ n e => n a es (HO.ext.inj e).symm⟩
theorem nx_lst {vs : List V} : NX (.lst vs) := ⟨fun _ e => HO.noConfusion e, fun _ _ e => HO.noConfusion e⟩
theorem nx_ins {C dx l} : NX (.ins C dx l) := ⟨fun _ e => HO.noConfusion e, fun _ _ e => HO.noConfusion e⟩
theorem nx_tup {vs : List V} : NX (.tup vs) := ⟨fun _ e => HO.noConfusion e, fun _ _ e => HO.noConfusion e⟩
theorem nx_frz {o u} : NX (.frz o u) := ⟨fun _ e => HO.noConfusion e, fun _ _ e => HO.noConfusion e⟩
theorem nx_dK {k} : NX (.dK k) := ⟨fun _ e => HO.noConfusion e, fun _ _ e => HO.noConfusion e⟩
noncomputable abbrev Slots := List Sv
/-- o stands at a, its parts in F -/
noncomputable def OwnAt (Γ : Gam) (F H : Hp) : Ov → Addr → Prop
  | .lst ds, a => ∃ vs, H a = some (.lst vs) ∧ Reps Γ F ds vs
  | .ins c fs ds, a => ∃ dx l, H a = some (.ins (Γ.cl c) dx l) ∧ l.map (·.1) = fs ∧ Reps Γ F ds (l.map (·.2))
  | .dic ks ds, a => ∃ o vs, (H a = some o ∧ NX o) ∧ (∀ F' : Hp, F' a = some o → Γ.dict F' a ks vs) ∧ Reps Γ F ds vs
theorem OwnAt.mono {Γ : Gam} {F F' H H' : Hp} {o : Ov} {a : Addr} (e : Ext F F') (h : ∀ u, H a = some u → H' a = some u) (x : OwnAt Γ F H o a) : OwnAt Γ F' H' o a := by
  cases o with
  | lst ds => obtain ⟨vs, h1, r⟩ := x; exact ⟨vs, h _ h1, r.mono e⟩
  | ins c fs ds => obtain ⟨dx, l, h1, e2, r⟩ := x; exact ⟨dx, l, h _ h1, e2, r.mono e⟩
  | dic ks ds => obtain ⟨u, vs, ⟨h1, hn⟩, d, r⟩ := x; exact ⟨u, vs, ⟨h _ h1, hn⟩, d, r.mono e⟩
theorem OwnAt.there {Γ : Gam} {F H : Hp} {o : Ov} {a : Addr} (x : OwnAt Γ F H o a) : ∃ u, H a = some u := by
  cases o with
  | lst ds => obtain ⟨vs, h1, r⟩ := x; exact ⟨_, h1⟩
  | ins c fs ds => obtain ⟨dx, l, h1, e2, r⟩ := x; exact ⟨_, h1⟩
  | dic ks ds => obtain ⟨u, vs, ⟨h1, hn⟩, d, r⟩ := x; exact ⟨_, h1⟩
theorem OwnAt.nx {Γ : Gam} {F H : Hp} {o : Ov} {a : Addr} (x : OwnAt Γ F H o a) : ∃ u, H a = some u ∧ NX u := by
  cases o with
  | lst ds => obtain ⟨vs, h1, r⟩ := x; exact ⟨_, h1, nx_lst⟩
  | ins c fs ds => obtain ⟨dx, l, h1, e2, r⟩ := x; exact ⟨_, h1, nx_ins⟩
  | dic ks ds => obtain ⟨u, vs, ⟨h1, hn⟩, d, r⟩ := x; exact ⟨_, h1, hn⟩
/-- given away: what it is from now on -/
theorem OwnAt.freeze {Γ : Gam} {F H : Hp} {o : Ov} {a : Addr} {u : HO} (hn : F a = none) (hu : H a = some u) (x : OwnAt Γ F H o a) : Rep Γ (upd F a u) o.d (.ref a) := by
  have e : Ext F (upd F a u) := Ext.upd hn
  cases o with
  | lst ds =>
    obtain ⟨vs, h1, r⟩ := x
    rw [hu] at h1; cases h1
    exact ⟨a, vs, rfl, upd_same, r.mono e⟩
  | ins c fs ds =>
    obtain ⟨dx, l, h1, e2, r⟩ := x
    rw [hu] at h1; cases h1
    exact ⟨a, dx, l, rfl, upd_same, e2, r.mono e⟩
  | dic ks ds =>
    obtain ⟨u', vs, ⟨h1, _⟩, d, r⟩ := x
    rw [hu] at h1; cases h1
    exact ⟨a, vs, rfl, d _ upd_same, r.mono e⟩
/-- what stands at a: a function that was handed on, or a list of functions, known by A -/
noncomputable def cbP (Γ : Gam) (A : Addr → Prop) (C F : Hp) (a : Addr) : CF → Prop
  | .fn g => Γ.cb C F a g
  | .tag => A a
theorem cbP.mono {Γ : Gam} {A : Addr → Prop} {C C' F F' : Hp} {a : Addr} {f : CF} (h1 : ∀ b o, C b = some o → C' b = some o) (h2 : ∀ b o, F b = some o → F' b = some o) (h : cbP Γ A C F a f) : cbP Γ A C' F' a f := by
  cases f with
  | fn g => exact Γ.cb_mono h1 h2 h
  | tag => exact h
theorem cbP.any {Γ : Gam} {A : Addr → Prop} {C F : Hp} {a : Addr} {f : CF} (h : cbP Γ A C F a f) : cbP Γ (fun _ => True) C F a f := by
  cases f with
  | fn g => exact h
  | tag => exact trivial
/-- a call's frame: the heap at its entry, what was given away then, what was lent (slot, place), what lies aside now -/
structure Fx where
  H : Hp
  F : Hp
  W : Nat → Addr → Prop
  T : Hp
  C : Hp := fun _ => none
  A : Nat → Addr → Prop := fun _ _ => True
  fn : ∀ (i : Nat) (a b : Addr), W i a → W i b → a = b
/-- lent to the call -/
noncomputable def Fx.L (fx : Fx) (a : Addr) : Prop := ∃ i, fx.W i a
/-- whose object it is -/
noncomputable def Fx.has (fx : Fx) (i : Nat) (a : Addr) (b : Bool) : Prop := if b then fx.W i a else fx.H a = none
theorem Fx.has.or {fx : Fx} {i : Nat} {a : Addr} {b : Bool} (h : fx.has i a b) : fx.H a = none ∨ fx.L a := by
  cases b with
  | true => exact .inr ⟨i, h⟩
  | false => exact .inl h
/-- the background: what handed-on functions lean on, the tables of code objects -/
structure Bg (Γ : Gam) (C H0 H : Hp) : Prop where
  clo : ∀ a o, C a = some o → (∃ φ, NE φ ∧ o = .ext φ) ∧ H a = some o
  tab : LamX.Tabs Γ.T H
  frt : ∀ a ps, H0 a = some (.tbl ps) → ∃ more, H a = some (.tbl (ps ++ more))
theorem Bg.lay {Γ : Gam} {C H0 H : Hp} {p : Addr} {u : HO} (b : Bg Γ C H0 H) (h : H p = none) : Bg Γ C H0 (upd H p u) where
  clo := fun a o e => let ⟨h1, h2⟩ := b.clo a o e; ⟨h1, Ext.upd h _ _ h2⟩
  tab := b.tab.ext (Ext.upd h)
  frt := fun a ps e => let ⟨m, h1⟩ := b.frt a ps e; ⟨m, Ext.upd h _ _ h1⟩
theorem Bg.write {Γ : Gam} {C H0 H : Hp} {p : Addr} {o u : HO} (b : Bg Γ C H0 H) (h : H p = some o) (hn : NX o) : Bg Γ C H0 (upd H p u) where
  clo := fun a o' e => by
    obtain ⟨⟨φ, h0, h1⟩, h2⟩ := b.clo a o' e
    have ne : a ≠ p := fun q => by rw [q, h] at h2; cases h2; exact hn.2 φ h0 h1
    exact ⟨⟨φ, h0, h1⟩, by rw [upd_ne ne]; exact h2⟩
  tab := fun q hq => by
    obtain ⟨ps, h1, h2, h3⟩ := b.tab q hq
    have ne : q.1 ≠ p := fun z => by rw [z, h] at h1; cases h1; exact hn.1 ps rfl
    refine ⟨ps, by rw [upd_ne ne]; exact h1, h2, fun pos cv hc => ?_⟩
    obtain ⟨c, e1, e2⟩ := h3 pos cv hc
    have ne2 : c ≠ p := fun z => by rw [z, h] at e2; cases e2; exact hn.2 _ (ne_code rfl) rfl
    exact ⟨c, e1, by rw [upd_ne ne2]; exact e2⟩
  frt := fun a ps e => by
    obtain ⟨m, h1⟩ := b.frt a ps e
    have ne : a ≠ p := fun z => by rw [z, h] at h1; cases h1; exact hn.1 _ rfl
    exact ⟨m, by rw [upd_ne ne]; exact h1⟩
structure Rel (Γ : Gam) (fx : Fx) (S : Slots) (σ : L2.St) (H F : Hp) : Prop where
  bg : Bg Γ fx.C fx.H H
  cb : ∀ (i : Nat) (f : CF), S[i]? = some (.cb f) → ∃ a, σ[i]? = some (some (.ref a)) ∧ cbP Γ (fx.A i) fx.C fx.F a f
  tnx : ∀ a o, fx.T a = some o → ∀ ps, o ≠ .tbl ps
  fnx : ∀ a o, F a = some o → NX o
  len : S.length = σ.length
  val : ∀ (i : Nat) (d : D), S[i]? = some (.val d) → ∃ v, σ[i]? = some (some v) ∧ Rep Γ F d v
  own : ∀ (i : Nat) (o : Ov) (b : Bool), S[i]? = some (.own o b) → ∃ a, σ[i]? = some (some (.ref a)) ∧ F a = none ∧ OwnAt Γ F H o a ∧ fx.T a = none ∧ fx.has i a b
  inj : ∀ (i j : Nat) (o o' : Ov) (b b' : Bool) (a : Addr), S[i]? = some (.own o b) → S[j]? = some (.own o' b') → σ[i]? = some (some (.ref a)) → σ[j]? = some (some (.ref a)) → i = j
  sub : Ext F H
  sub0 : Ext fx.F F
  new : ∀ a o, F a = some o → fx.F a = some o ∨ fx.H a = none ∨ fx.L a
  frm : ∀ a o, fx.H a = some o → (∀ ps, o ≠ .tbl ps) → ¬ fx.L a → H a = some o
  wth : ∀ a, fx.L a → ∃ o, H a = some o
  tmp : ∀ a o, fx.T a = some o → H a = some o ∧ F a = none
section
variable {Γ : Gam} {fx : Fx} {S : Slots} {σ : L2.St} {H F : Hp}
theorem Rel.held (R : Rel Γ fx S σ H F) {a : Addr} {o : HO} (h : fx.H a = some o) (hw : ¬ fx.L a) : ∃ o', H a = some o' := by
  by_cases ht : ∃ ps, o = .tbl ps
  · obtain ⟨ps, rfl⟩ := ht
    obtain ⟨m, e⟩ := R.bg.frt a ps h
    exact ⟨_, e⟩
  · exact ⟨_, R.frm a o h (fun ps e => ht ⟨ps, e⟩) hw⟩
theorem Rel.fresh (R : Rel Γ fx S σ H F) {p : Addr} (h : H p = none) : F p = none ∧ fx.H p = none ∧ ¬ fx.L p ∧ fx.T p = none := by
  have hW : ¬ fx.L p := fun q => by
    obtain ⟨o, e⟩ := R.wth p q
    rw [h] at e; cases e
  refine ⟨?_, ?_, hW, ?_⟩
  · cases e : F p with
    | none => rfl
    | some o => have := R.sub p o e; rw [h] at this; cases this
  · cases e : fx.H p with
    | none => rfl
    | some o => obtain ⟨o', this⟩ := R.held e hW; rw [h] at this; cases this
  · cases e : fx.T p with
    | none => rfl
    | some o => have := (R.tmp p o e).1; rw [h] at this; cases this
theorem Rel.ownNe (R : Rel Γ fx S σ H F) {i : Nat} {o : Ov} {b : Bool} {a p : Addr} (h : S[i]? = some (.own o b)) (hs : σ[i]? = some (some (.ref a))) (hp : H p = none) : a ≠ p := by
  obtain ⟨c, e1, _, o1, _⟩ := R.own i o b h
  rw [hs] at e1; cases e1
  obtain ⟨u, hu⟩ := o1.there
  exact ne_of_none hu hp
/-- a new object that nobody else holds is laid, and kept apart -/
theorem Rel.lay (R : Rel Γ fx S σ H F) {p : Addr} {u : HO} (h : H p = none) : Rel Γ fx S σ (upd H p u) F where
  bg := R.bg.lay h
  cb := R.cb
  tnx := R.tnx
  fnx := R.fnx
  len := R.len
  val := R.val
  own := fun i o b e => by
    obtain ⟨a, e1, e2, o1, e3⟩ := R.own i o b e
    obtain ⟨w, hw⟩ := o1.there
    exact ⟨a, e1, e2, o1.mono (Ext.refl F) fun z hz => by rw [upd_ne (ne_of_none hw h)]; exact hz, e3⟩
  inj := R.inj
  sub := R.sub.trans (Ext.upd h)
  sub0 := R.sub0
  new := R.new
  frm := fun a o e ht hw => Ext.upd h _ _ (R.frm a o e ht hw)
  wth := fun a ha => by obtain ⟨o, e⟩ := R.wth a ha; exact ⟨o, Ext.upd h _ _ e⟩
  tmp := fun a o e => ⟨Ext.upd h _ _ (R.tmp a o e).1, (R.tmp a o e).2⟩
/-- .. and an object that is kept apart is given away -/
theorem Rel.give (R : Rel Γ fx S σ H F) {p : Addr} {u : HO} (hF : F p = none) (hH : H p = some u) (hT : fx.T p = none) (hn : fx.H p = none ∨ fx.L p) (ha : ∀ (i : Nat) (o : Ov) (b : Bool), S[i]? = some (.own o b) → σ[i]? ≠ some (some (.ref p))) (hu : NX u) : Rel Γ fx S σ H (upd F p u) where
  bg := R.bg
  cb := R.cb
  tnx := R.tnx
  fnx := fun a o e => by
    by_cases q : a = p
    · subst q; rw [upd_same] at e; cases e; exact hu
    · rw [upd_ne q] at e; exact R.fnx a o e
  len := R.len
  val := fun i d e => by obtain ⟨v, e1, r⟩ := R.val i d e; exact ⟨v, e1, r.mono (Ext.upd hF)⟩
  own := fun i o b e => by
    obtain ⟨a, e1, e2, o1, e3⟩ := R.own i o b e
    have ne : a ≠ p := fun q => ha i o b e (by rw [e1, q])
    exact ⟨a, e1, by rw [upd_ne ne]; exact e2, o1.mono (Ext.upd hF) fun _ z => z, e3⟩
  inj := R.inj
  sub := fun a o e => by
    by_cases q : a = p
    · subst q; rw [upd_same] at e; cases e; exact hH
    · rw [upd_ne q] at e; exact R.sub a o e
  sub0 := R.sub0.trans (Ext.upd hF)
  new := fun a o e => by
    by_cases q : a = p
    · subst q; exact .inr hn
    · rw [upd_ne q] at e; exact R.new a o e
  frm := R.frm
  wth := R.wth
  tmp := fun a o e => ⟨(R.tmp a o e).1, by rw [upd_ne (ne_of_none e hT)]; exact (R.tmp a o e).2⟩
/-- a new object, given away at once -/
theorem Rel.make (R : Rel Γ fx S σ H F) {p : Addr} {u : HO} (h : H p = none) (hu : NX u := by first | exact nx_tup | exact nx_lst | assumption) : Ext F (upd F p u) ∧ Rel Γ fx S σ (upd H p u) (upd F p u) := by
  obtain ⟨f1, f2, f3, f4⟩ := R.fresh h
  refine ⟨Ext.upd f1, (R.lay (u := u) h).give f1 upd_same f4 (.inl f2) (fun i o b e q => ?_) hu⟩
  exact R.ownNe e q h rfl
/-- what is known of a slot is forgotten, or set anew -/
theorem Rel.setX (R : Rel Γ fx S σ H F) {i : Nat} {sv : Sv} {x : Option V} (hv : ∀ d, sv = .val d → ∃ v, x = some v ∧ Rep Γ F d v)
    (ho : ∀ o b, sv = .own o b → ∃ a, x = some (.ref a) ∧ F a = none ∧ OwnAt Γ F H o a ∧ fx.T a = none ∧ fx.has i a b ∧ ∀ (j : Nat) (o' : Ov) (b : Bool), j ≠ i → S[j]? = some (.own o' b) → σ[j]? ≠ some (some (.ref a)))
    (hc : ∀ f, sv = .cb f → ∃ a, x = some (.ref a) ∧ cbP Γ (fx.A i) fx.C fx.F a f := by intro _ e; cases e) :
    Rel Γ fx (S.set i sv) (σ.set i x) H F := by
  have g : ∀ (j : Nat) y, (S.set i sv)[j]? = some y → (j = i ∧ i < S.length ∧ y = sv) ∨ (j ≠ i ∧ S[j]? = some y) := fun j y h => by
    by_cases q : i = j
    · subst q
      by_cases hl : i < S.length
      · rw [List.getElem?_set_self hl] at h; cases h; exact .inl ⟨rfl, hl, rfl⟩
      · rw [List.getElem?_eq_none (by rw [List.length_set]; omega)] at h; cases h
    · rw [List.getElem?_set_ne q] at h; exact .inr ⟨Ne.symm q, h⟩
  have gs : ∀ {j : Nat} {y}, j ≠ i → (σ.set i x)[j]? = y → σ[j]? = y := fun {j y} q h => by rw [List.getElem?_set_ne (Ne.symm q)] at h; exact h
  have gt : ∀ {j : Nat} {y}, j ≠ i → σ[j]? = y → (σ.set i x)[j]? = y := fun {j y} q h => by rw [List.getElem?_set_ne (Ne.symm q)]; exact h
  have si : i < S.length → (σ.set i x)[i]? = some x := fun hl => List.getElem?_set_self (by rw [← R.len]; exact hl)
  exact {
    bg := R.bg
    cb := fun j f e => by
      rcases g j _ e with ⟨rfl, hl, e⟩ | ⟨q, e⟩
      · obtain ⟨a, rfl, h2⟩ := hc f e.symm
        exact ⟨a, si hl, h2⟩
      · obtain ⟨a, e1, h2⟩ := R.cb j f e
        exact ⟨a, gt q e1, h2⟩
    tnx := R.tnx
    fnx := R.fnx
    len := by rw [List.length_set, List.length_set]; exact R.len
    val := fun j d e => by
      rcases g j _ e with ⟨rfl, hl, e⟩ | ⟨q, e⟩
      · obtain ⟨v, rfl, r⟩ := hv d e.symm
        exact ⟨v, si hl, r⟩
      · obtain ⟨v, e1, r⟩ := R.val j d e
        exact ⟨v, gt q e1, r⟩
    own := fun j o b e => by
      rcases g j _ e with ⟨rfl, hl, e⟩ | ⟨q, e⟩
      · obtain ⟨a, rfl, e2, o1, e3, e4, _⟩ := ho o b e.symm
        exact ⟨a, si hl, e2, o1, e3, e4⟩
      · obtain ⟨a, e1, r⟩ := R.own j o b e
        exact ⟨a, gt q e1, r⟩
    inj := fun j k o1 o2 b1 b2 a e1 e2 e3 e4 => by
      rcases g j _ e1 with ⟨q1, hl, p1⟩ | ⟨qj, p1⟩
      · rcases g k _ e2 with ⟨q2, _, p2⟩ | ⟨qk, p2⟩
        · rw [q1, q2]
        · exfalso
          obtain ⟨c, e5, _, _, _, _, ne⟩ := ho _ _ p1.symm
          rw [q1, si hl, e5] at e3
          cases e3
          exact ne k o2 b2 qk p2 (gs qk e4)
      · rcases g k _ e2 with ⟨q2, hl, p2⟩ | ⟨qk, p2⟩
        · exfalso
          obtain ⟨c, e5, _, _, _, _, ne⟩ := ho _ _ p2.symm
          rw [q2, si hl, e5] at e4
          cases e4
          exact ne j o1 b1 qj p1 (gs qj e3)
        · exact R.inj j k o1 o2 b1 b2 a p1 p2 (gs qj e3) (gs qk e4)
    sub := R.sub
    sub0 := R.sub0
    new := R.new
    frm := R.frm
    wth := R.wth
    tmp := R.tmp }
theorem Rel.setNo (R : Rel Γ fx S σ H F) {i : Nat} {x : Option V} : Rel Γ fx (S.set i .no) (σ.set i x) H F := R.setX (fun _ e => by cases e) fun _ _ e => by cases e
theorem set_same {α : Type} {l : List α} {i : Nat} {x : α} (h : l[i]? = some x) : l.set i x = l := by
  have hl : i < l.length := (List.getElem?_eq_some_iff.mp h).1
  apply List.ext_getElem?
  intro j
  by_cases z : i = j
  · subst z; rw [List.getElem?_set_self hl]; exact h.symm
  · rw [List.getElem?_set_ne z]
/-- a name's slot is set to data -/
theorem Rel.setVal (R : Rel Γ fx S σ H F) {i : Nat} {d : D} {v : V} (h : Rep Γ F d v) : Rel Γ fx (S.set i (.val d)) (σ.set i (some v)) H F :=
  R.setX (fun _ e => by cases e; exact ⟨v, rfl, h⟩) fun _ _ e => by cases e
/-- .. to a new object of its own -/
theorem Rel.setOwn (R : Rel Γ fx S σ H F) {i : Nat} {o : Ov} {a : Addr} (hF : F a = none) (ho : OwnAt Γ F H o a) (hT : fx.T a = none) (hn : fx.H a = none) (ha : ∀ (j : Nat) (o' : Ov) (b : Bool), S[j]? = some (.own o' b) → σ[j]? ≠ some (some (.ref a))) :
    Rel Γ fx (S.set i (.own o false)) (σ.set i (some (.ref a))) H F :=
  R.setX (fun _ e => by cases e) fun _ _ e => by cases e; exact ⟨a, rfl, hF, ho, hT, hn, fun j o' b _ => ha j o' b⟩
/-- what is known of a slot is turned: the object that it alone holds is given away -/
theorem Rel.giveSlot (R : Rel Γ fx S σ H F) {i : Nat} {o : Ov} {b0 : Bool} (e : S[i]? = some (.own o b0)) : ∃ F' a, σ[i]? = some (some (.ref a)) ∧ Ext F F' ∧ Rel Γ fx (S.set i (.val o.d)) σ H F' ∧ Rep Γ F' o.d (.ref a) := by
  obtain ⟨a, e1, e2, o1, eT, e3⟩ := R.own i o b0 e
  obtain ⟨u, hu, nu⟩ := o1.nx
  have rp := o1.freeze e2 hu
  have hl : i < S.length := (List.getElem?_eq_some_iff.mp e).1
  have R1 : Rel Γ fx (S.set i .no) (σ.set i (some (.ref a))) H F := R.setNo
  have hs : σ.set i (some (.ref a)) = σ := set_same e1
  rw [hs] at R1
  have R2 := R1.give (p := a) (u := u) e2 hu eT e3.or (hu := nu) fun j o' b h q => by
    by_cases z : i = j
    · subst z; rw [List.getElem?_set_self hl] at h; cases h
    · rw [List.getElem?_set_ne z] at h
      exact z (R.inj i j o o' b0 b a e h e1 q)
  have R3 := R2.setVal (i := i) rp
  refine ⟨_, a, e1, Ext.upd e2, ?_, rp⟩
  have q1 : (S.set i .no).set i (.val o.d) = S.set i (.val o.d) := by simp
  rw [q1, hs] at R3
  exact R3
/-- the object that a slot alone holds has changed -/
theorem Rel.write (R : Rel Γ fx S σ H F) {i : Nat} {o o' : Ov} {b0 : Bool} {a : Addr} {u : HO} (e : S[i]? = some (.own o b0)) (e1 : σ[i]? = some (some (.ref a))) (ho : OwnAt Γ F (upd H a u) o' a) : Rel Γ fx (S.set i (.own o' b0)) σ (upd H a u) F := by
  obtain ⟨b, q1, e2, o1, eT, e3⟩ := R.own i o b0 e
  rw [e1] at q1; cases q1
  have hl : i < S.length := (List.getElem?_eq_some_iff.mp e).1
  have hFa : ∀ c x, F c = some x → c ≠ a := fun c x h q => by rw [q, e2] at h; cases h
  have hTa : ∀ c x, fx.T c = some x → c ≠ a := fun c x h q => by rw [q, eT] at h; cases h
  obtain ⟨u0, hu0, nu0⟩ := o1.nx
  exact {
    bg := R.bg.write hu0 nu0
    cb := fun j f h => by
      by_cases z : i = j
      · subst z; rw [List.getElem?_set_self hl] at h; cases h
      · rw [List.getElem?_set_ne z] at h; exact R.cb j f h
    tnx := R.tnx
    fnx := R.fnx
    len := by rw [List.length_set]; exact R.len
    val := fun j d h => by
      by_cases z : i = j
      · subst z; rw [List.getElem?_set_self hl] at h; cases h
      · rw [List.getElem?_set_ne z] at h; exact R.val j d h
    own := fun j x b h => by
      by_cases z : i = j
      · subst z; rw [List.getElem?_set_self hl] at h; cases h
        exact ⟨a, e1, e2, ho, eT, e3⟩
      · rw [List.getElem?_set_ne z] at h
        obtain ⟨c, h1, h2, h3, h4⟩ := R.own j x b h
        have ne : c ≠ a := fun q => z (R.inj i j o x b0 b a e h e1 (by rw [h1, q]))
        exact ⟨c, h1, h2, h3.mono (Ext.refl F) fun y hy => by rw [upd_ne ne]; exact hy, h4⟩
    inj := fun j k x y b1 b2 b h1 h2 h3 h4 => by
      have f : ∀ (j : Nat) x b, (S.set i (.own o' b0))[j]? = some (.own x b) → ∃ x' b', S[j]? = some (.own x' b') := fun j x b h => by
        by_cases z : i = j
        · subst z; exact ⟨o, b0, e⟩
        · rw [List.getElem?_set_ne z] at h; exact ⟨x, b, h⟩
      obtain ⟨x', c1, h1'⟩ := f j x b1 h1
      obtain ⟨y', c2, h2'⟩ := f k y b2 h2
      exact R.inj j k x' y' c1 c2 b h1' h2' h3 h4
    sub := fun c x h => by rw [upd_ne (hFa c x h)]; exact R.sub c x h
    sub0 := R.sub0
    new := R.new
    frm := fun c x h ht hw => by
      have ne : c ≠ a := fun q => by
        subst q
        rcases e3.or with z | z
        · rw [h] at z; cases z
        · exact hw z
      rw [upd_ne ne]; exact R.frm c x h ht hw
    wth := fun c hc => by
      by_cases q : c = a
      · subst q; exact ⟨u, upd_same⟩
      · obtain ⟨x, hx⟩ := R.wth c hc
        exact ⟨x, by rw [upd_ne q]; exact hx⟩
    tmp := fun c x h => ⟨by rw [upd_ne (hTa c x h)]; exact (R.tmp c x h).1, (R.tmp c x h).2⟩ }
end
end G
namespace G
open PySem PySem.Spec PyProof.Rows L2
/-! ### what a piece of code comes to -/
structure Xn where
  c : Nat
  fs : List Str
  ds : List D
inductive R (α : Type) where
  | ok (a : α)
  | exc (x : Xn) (S : Slots)
  | bad
/-- what an expression hands on: data, the object of a slot, a new object -/
inductive Pv where
  | dat (d : D)
  | sl (i : Nat)
  | fr (o : Ov)
noncomputable abbrev M (α : Type) := Slots → R (α × Slots)
noncomputable def M.pure {α : Type} (a : α) : M α := fun S => .ok (a, S)
noncomputable def M.bad {α : Type} : M α := fun _ => .bad
noncomputable def M.bind {α β : Type} (g : M α) (f : α → M β) : M β := fun S => match g S with
  | .ok (a, S') => f a S'
  | .exc x S' => .exc x S'
  | .bad => .bad
noncomputable def M.lift {α : Type} : Option α → M α
  | some a => M.pure a
  | none => M.bad
noncomputable instance : Monad M where
  pure := M.pure
  bind := M.bind
noncomputable def XRep (Γ : Gam) (F H : Hp) (x : Xn) (cls : Value) (d : Option Addr) : Prop :=
  cls = .ref (Γ.xc x.c) ∧ ∃ dd l, d = some dd ∧ H dd = some (.xd l) ∧ l.map (·.1) = x.fs ∧ Reps Γ F x.ds (l.map (·.2))
section
variable (Γ : Gam) (fx : Fx) (E : WX)
noncomputable def PvOk (S : Slots) (σ : L2.St) (H F : Hp) : Pv → V → Prop
  | .dat d, v => Rep Γ F d v
  | .sl i, v => σ[i]? = some (some v) ∧ ∃ o b, S[i]? = some (.own o b)
  | .fr o, v => ∃ a, v = .ref a ∧ F a = none ∧ OwnAt Γ F H o a ∧ fx.T a = none ∧ fx.H a = none ∧ ∀ (i : Nat) (o' : Ov) (b : Bool), S[i]? = some (.own o' b) → σ[i]? ≠ some (some (.ref a))
noncomputable def Post {α : Type} (σ : L2.St) (F : Hp) (r : R (α × Slots)) (k : α → Slots → Hp → Hp → Prop) : Prop :=
  match r with
  | .ok (a, S') => ∀ H' F', Ext F F' → Rel Γ fx S' σ H' F' → k a S' H' F'
  | .exc x S' => ∀ cls d H' F', Ext F F' → Rel Γ fx S' σ H' F' → XRep Γ F' H' x cls d → E cls d σ H'
  | .bad => False
/-- readings -/
noncomputable def tG (g : M Pv) : TE := fun σ H Q => ∃ S F, Rel Γ fx S σ H F ∧ Post Γ fx E σ F (g S) fun pv S' H' F' => ∀ v, PvOk Γ fx S' σ H' F' pv v → Q v H'
noncomputable def tV (g : M D) : TE := fun σ H Q => ∃ S F, Rel Γ fx S σ H F ∧ Post Γ fx E σ F (g S) fun d S' H' F' => ∀ v, Rep Γ F' d v → Q v H'
noncomputable def tT (g : M Bool) : TT := fun σ H Q => ∃ S F, Rel Γ fx S σ H F ∧ Post Γ fx E σ F (g S) fun b S' H' F' => Q b H'
noncomputable def tVs (g : M (List D)) : TA := fun σ H Q => ∃ S F, Rel Γ fx S σ H F ∧ Post Γ fx E σ F (g S) fun ds S' H' F' => ∀ vs, Reps Γ F' ds vs → Q vs H'
end
section
variable {Γ : Gam} {fx : Fx} {E : WX} {σ : L2.St} {F F' : Hp}
theorem Post.imp {α : Type} {r : R (α × Slots)} {k k' : α → Slots → Hp → Hp → Prop} (h : Post Γ fx E σ F r k) (f : ∀ a S' H' F', Ext F F' → Rel Γ fx S' σ H' F' → k a S' H' F' → k' a S' H' F') : Post Γ fx E σ F r k' := by
  cases r with
  | ok p => obtain ⟨a, S'⟩ := p; exact fun H' F' e Rl => f a S' H' F' e Rl (h H' F' e Rl)
  | exc x S' => exact h
  | bad => exact h
theorem Post.mono {α : Type} {r : R (α × Slots)} {k : α → Slots → Hp → Hp → Prop} (e : Ext F F') (h : Post Γ fx E σ F r k) : Post Γ fx E σ F' r k := by
  cases r with
  | ok p => obtain ⟨a, S'⟩ := p; exact fun H1 F1 e1 Rl => h H1 F1 (e.trans e1) Rl
  | exc x S' => exact fun cls d H1 F1 e1 Rl x => h cls d H1 F1 (e.trans e1) Rl x
  | bad => exact h
theorem Post.bind {α β : Type} {g : M α} {f : α → M β} {S : Slots} {k : β → Slots → Hp → Hp → Prop} (h : Post Γ fx E σ F (M.bind g f S) k) :
    Post Γ fx E σ F (g S) fun a S' H' F' => Post Γ fx E σ F' (f a S') k := by
  unfold M.bind at h
  cases e : g S with
  | ok p =>
    obtain ⟨a, S'⟩ := p
    rw [e] at h
    exact fun H' F' e1 _ => Post.mono e1 h
  | exc x S' => rw [e] at h; exact h
  | bad => rw [e] at h; exact h
theorem Post.pure {α : Type} {a : α} {S : Slots} {H : Hp} {k : α → Slots → Hp → Hp → Prop} (h : Post Γ fx E σ F (M.pure a S) k) (Rl : Rel Γ fx S σ H F) : k a S H F := h H F (Ext.refl F) Rl
theorem Post.lift {α : Type} {a : Option α} {S : Slots} {H : Hp} {k : α → Slots → Hp → Hp → Prop} (h : Post Γ fx E σ F (M.lift a S) k) (Rl : Rel Γ fx S σ H F) : ∃ x, a = some x ∧ ∀ H' F', Ext F F' → Rel Γ fx S σ H' F' → k x S H' F' := by
  cases a with
  | none => exact h.elim
  | some x => exact ⟨x, rfl, h⟩
end
/-! ### the judgements -/
section
variable (Γ : Gam) (fx : Fx) (E : WX) (X : Cx)
noncomputable def GE (e : Expr) (g : M Pv) : Prop := PE X e (tG Γ fx E g)
noncomputable def GV (e : Expr) (g : M D) : Prop := PE X e (tV Γ fx E g)
noncomputable def GT (e : Expr) (g : M Bool) : Prop := PT X e (tT Γ fx E g)
noncomputable def GW (e : Expr) (g : M Bool) : Prop := PW X e (tT Γ fx E g)
noncomputable def GA (es : List Expr) (g : M (List D)) : Prop := PA X es (tVs Γ fx E g)
end
section
variable {X : Cx}
theorem PE.weak {e : Expr} {t t' : TE} (h : PE X e t) (w : ∀ σ H Q, t' σ H Q → t σ H Q) : PE X e t' := ⟨fun pins s σ H Q I q => h.run pins s σ H Q I (w σ H Q q)⟩
theorem PT.weak {e : Expr} {t t' : TT} (h : PT X e t) (w : ∀ σ H Q, t' σ H Q → t σ H Q) : PT X e t' := ⟨fun pins s σ H Q I q => h.run pins s σ H Q I (w σ H Q q)⟩
theorem PW.weak {e : Expr} {t t' : TT} (h : PW X e t) (w : ∀ σ H Q, t' σ H Q → t σ H Q) : PW X e t' := ⟨fun wh pins s σ H Q I q => h.run wh pins s σ H Q I (w σ H Q q)⟩
theorem PA.weak {es : List Expr} {t t' : TA} (h : PA X es t) (w : ∀ σ H Q, t' σ H Q → t σ H Q) : PA X es t' := ⟨fun pos pins s σ H Q I q => h.run pos pins s σ H Q I (w σ H Q q)⟩
theorem PS.weak {st : Stmt} {t t' : TS} (h : PS X st t) (w : ∀ D σ H, t' D σ H → t D σ H) : PS X st t' := ⟨fun pins s σ H D I q => h.run pins s σ H D I (w D σ H q)⟩
theorem PSs.weak {st : List Stmt} {t t' : TS} (h : PSs X st t) (w : ∀ D σ H, t' D σ H → t D σ H) : PSs X st t' := ⟨fun pins s σ H D I q => h.run pins s σ H D I (w D σ H q)⟩
end
section
variable {Γ : Gam} {fx : Fx} {E : WX} {X : Cx} {pos : Pos}
/-- what an expression hands on, as data -/
noncomputable def Pv.give : Pv → M D
  | .dat d => M.pure d
  | .fr o => M.pure o.d
  | .sl i => fun S => match S[i]? with
    | some (.own o _) => .ok (o.d, S.set i (.val o.d))
    | some (.val d) => .ok (d, S)
    | _ => .bad
noncomputable def toV (g : M Pv) : M D := M.bind g Pv.give
theorem Rel.giveNew {S : Slots} {σ : L2.St} {H F : Hp} {o : Ov} {v : V} (Rl : Rel Γ fx S σ H F) (h : PvOk Γ fx S σ H F (.fr o) v) : ∃ F', Ext F F' ∧ Rel Γ fx S σ H F' ∧ Rep Γ F' o.d v := by
  obtain ⟨a, rfl, e2, o1, eT, e3, e4⟩ := h
  obtain ⟨u, hu, nu⟩ := o1.nx
  exact ⟨_, Ext.upd e2, Rl.give e2 hu eT (.inl e3) e4 nu, o1.freeze e2 hu⟩
theorem give_post {S : Slots} {σ : L2.St} {H F : Hp} {pv : Pv} {v : V} {k : D → Slots → Hp → Hp → Prop} (Rl : Rel Γ fx S σ H F) (h : Post Γ fx E σ F (pv.give S) k) (p : PvOk Γ fx S σ H F pv v) : ∃ d S' F', Rel Γ fx S' σ H F' ∧ Ext F F' ∧ Rep Γ F' d v ∧ k d S' H F' := by
  cases pv with
  | dat d => exact ⟨d, S, F, Rl, Ext.refl F, p, Post.pure h Rl⟩
  | fr o =>
    obtain ⟨F', e, R', r⟩ := Rl.giveNew p
    exact ⟨o.d, S, F', R', e, r, h H F' e R'⟩
  | sl i =>
    obtain ⟨e, o, b0, eo⟩ := p
    have h' : Post Γ fx E σ F (match S[i]? with | some (.own o _) => R.ok (o.d, S.set i (.val o.d)) | some (.val d) => .ok (d, S) | _ => .bad) k := h
    rw [eo] at h'
    obtain ⟨F', a, e1, ex, R', r⟩ := Rl.giveSlot eo
    rw [e] at e1
    cases e1
    exact ⟨o.d, _, F', R', ex, r, h' H F' ex R'⟩
theorem GE.v {e : Expr} {g : M Pv} (h : GE Γ fx E X e g) : GV Γ fx E X e (toV g) := by
  refine PE.weak h fun σ H Q ⟨S, F, Rl, q⟩ => ⟨S, F, Rl, ?_⟩
  refine Post.imp (Post.bind q) fun pv S' H' F' _ Rl' p v ok => ?_
  obtain ⟨d, S2, F2, R2, e2, r, k⟩ := give_post Rl' p ok
  exact k v r
theorem GV.e {e : Expr} {g : M D} (h : GV Γ fx E X e g) : GE Γ fx E X e (M.bind g fun d => M.pure (.dat d)) := by
  refine PE.weak h fun σ H Q ⟨S, F, Rl, q⟩ => ⟨S, F, Rl, ?_⟩
  refine Post.imp (Post.bind q) fun d S' H' F' _ Rl' p v ok => ?_
  exact Post.pure p Rl' v ok
/-! ### names and constants -/
noncomputable def gVar (i : Nat) : M Pv := fun S => match S[i]? with
  | some (.val d) => .ok (.dat d, S)
  | some (.own _ _) => .ok (.sl i, S)
  | _ => .bad
theorem ge_var (i : Nat) {x : Str} {pos : Pos} (hN : X.N[i]? = some x := by rfl) (hv : Vis X.env.scope x := by first | exact Or.inl rfl | exact Or.inr (Or.inl rfl) | exact Or.inr (Or.inr rfl)) (hd : (x == ("__debug__" : Str)) = false := by decide)
    (hcd : (x == ("__classdict__" : Str)) = false := by decide) : GE Γ fx E X (.Name x pos) (gVar i) := by
  refine PE.weak (pe_var hN hv hd hcd) fun σ H Q ⟨S, F, Rl, q⟩ => ?_
  unfold gVar at q
  cases e : S[i]? with
  | none => rw [e] at q; exact q.elim
  | some sv =>
    rw [e] at q
    cases sv with
    | no => exact q.elim
    | cb f => exact q.elim
    | val d =>
      obtain ⟨v, e1, r⟩ := Rl.val i d e
      exact ⟨v, e1, q H F (Ext.refl F) Rl v r⟩
    | own o b =>
      obtain ⟨a, e1, _⟩ := Rl.own i o b e
      exact ⟨_, e1, q H F (Ext.refl F) Rl _ ⟨e1, o, b, e⟩⟩
noncomputable def gD (d : D) : M D := M.pure d
theorem gv_const {e : Expr} {v : V} {d : D} (h : PE X e (tC v)) (r : ∀ F, Rep Γ F d v) : GV Γ fx E X e (gD d) :=
  PE.weak h fun σ H Q ⟨S, F, Rl, q⟩ => Post.pure q Rl v (r F)
theorem gv_int {i j pos} : GV Γ fx E X (.Constant (.int i) j pos) (gD (.int i)) := gv_const pe_int fun _ => rfl
theorem gv_bl {b j pos} : GV Γ fx E X (.Constant (.bool b) j pos) (gD (.bl b)) := gv_const pe_bl fun _ => rfl
theorem gv_non {j pos} : GV Γ fx E X (.Constant .none j pos) (gD .non) := gv_const pe_non fun _ => rfl
theorem gv_str {x j pos} : GV Γ fx E X (.Constant (.str x) j pos) (gD (.str x)) := gv_const pe_str fun _ => rfl
/-! ### two-place operators -/
/-! ### tests -/
/-- data that is True or False -/
noncomputable def asB : D → Option Bool
  | .bl b => some b
  | _ => none
noncomputable def gB (g : M D) : M Bool := M.bind g fun d => M.lift (asB d)
theorem asB_rep {d : D} {b : Bool} {v : V} {F : Hp} (e : asB d = some b) (r : Rep Γ F d v) : v = .bl b := by
  cases d with
  | bl c => cases e; exact r
  | _ => cases e
theorem gt_val {e : Expr} {g : M D} (h : GV Γ fx E X e g) (he : ∀ whole, isTrue e X.env whole = (do let v ← whole; standAt e.pos; holding [v] (truthy v)) := by intro _; rfl) : GT Γ fx E X e (gB g) := by
  refine PT.weak (pt_val h he) fun σ H Q ⟨S, F, Rl, q⟩ => ⟨S, F, Rl, Post.imp (Post.bind q) fun d S' H' F' e1 R1 q1 v r => ?_⟩
  obtain ⟨b, eb, k⟩ := Post.lift q1 R1
  exact ⟨b, asB_rep eb r, k H' F' (Ext.refl _) R1⟩
noncomputable def gAnd (ga gb : M Bool) : M Bool := M.bind ga fun a => if a then gb else M.pure false
noncomputable def gOr (ga gb : M Bool) : M Bool := M.bind ga fun a => if a then M.pure true else gb
noncomputable def gNot (ga : M Bool) : M Bool := M.bind ga fun a => M.pure (!a)
theorem gt_not {a : Expr} {ga : M Bool} (ha : GT Γ fx E X a ga) : GT Γ fx E X (.UnaryOp .Not a pos) (gNot ga) :=
  PT.weak (pt_not ha) fun σ H Q ⟨S, F, Rl, q⟩ => ⟨S, F, Rl, Post.imp (Post.bind q) fun b S' H' F' e1 R1 q1 => Post.pure q1 R1⟩
theorem gw_and1 {a : Expr} {ga : M Bool} (ha : GT Γ fx E X a ga) : GW Γ fx E X (.BoolOp .And [a] pos) ga := pw_and1 ha
theorem gw_or1 {a : Expr} {ga : M Bool} (ha : GT Γ fx E X a ga) : GW Γ fx E X (.BoolOp .Or [a] pos) ga := pw_or1 ha
theorem gw_and {a b : Expr} {rest : List Expr} {ga gb : M Bool} (ha : GT Γ fx E X a ga) (hb : GW Γ fx E X (.BoolOp .And (b :: rest) pos) gb) : GW Γ fx E X (.BoolOp .And (a :: b :: rest) pos) (gAnd ga gb) :=
  PW.weak (pw_and ha hb) fun σ H Q ⟨S, F, Rl, q⟩ => ⟨S, F, Rl, Post.imp (Post.bind q) fun c S' H' F' e1 R1 q1 => by
    cases c with
    | true => exact ⟨S', F', R1, q1⟩
    | false => exact Post.pure q1 R1⟩
theorem gw_or {a b : Expr} {rest : List Expr} {ga gb : M Bool} (ha : GT Γ fx E X a ga) (hb : GW Γ fx E X (.BoolOp .Or (b :: rest) pos) gb) : GW Γ fx E X (.BoolOp .Or (a :: b :: rest) pos) (gOr ga gb) :=
  PW.weak (pw_or ha hb) fun σ H Q ⟨S, F, Rl, q⟩ => ⟨S, F, Rl, Post.imp (Post.bind q) fun c S' H' F' e1 R1 q1 => by
    cases c with
    | true => exact Post.pure q1 R1
    | false => exact ⟨S', F', R1, q1⟩⟩
theorem GW.t {e : Expr} {g : M Bool} (h : GW Γ fx E X e g) : GT Γ fx E X e g := PW.pt h
theorem gv_one {op} {a : Expr} {ga : M D} (ha : GV Γ fx E X a ga) : GV Γ fx E X (.BoolOp op [a] pos) ga := pe_one ha
noncomputable def gAndV (ga gb : M D) : M D := M.bind ga fun a => M.bind (M.lift (asB a)) fun a => if a then gb else M.pure (.bl false)
noncomputable def gOrV (ga gb : M D) : M D := M.bind ga fun a => M.bind (M.lift (asB a)) fun a => if a then M.pure (.bl true) else gb
noncomputable def gNotV (ga : M D) : M D := M.bind ga fun a => M.bind (M.lift (asB a)) fun a => M.pure (.bl (!a))
theorem gv_and {a b : Expr} {rest : List Expr} {ga gb : M D} (ha : GV Γ fx E X a ga) (hb : GV Γ fx E X (.BoolOp .And (b :: rest) pos) gb) : GV Γ fx E X (.BoolOp .And (a :: b :: rest) pos) (gAndV ga gb) :=
  PE.weak (pe_and ha hb) fun σ H Q ⟨S, F, Rl, q⟩ => ⟨S, F, Rl, Post.imp (Post.bind q) fun d S' H' F' e1 R1 q1 v r => by
    obtain ⟨c, ec, k⟩ := Post.lift (Post.bind q1) R1
    refine ⟨c, asB_rep ec r, ?_⟩
    have k1 := k H' F' (Ext.refl _) R1
    cases c with
    | true => exact ⟨S', F', R1, k1⟩
    | false => exact Post.pure k1 R1 _ rfl⟩
noncomputable def gIf (gc : M Bool) (ga gb : M Pv) : M Pv := M.bind gc fun c => if c then ga else gb
theorem ge_if {c a b : Expr} {gc : M Bool} {ga gb : M Pv} (hc : GT Γ fx E X c gc) (ha : GE Γ fx E X a ga) (hb : GE Γ fx E X b gb) : GE Γ fx E X (.IfExp c a b pos) (gIf gc ga gb) :=
  PE.weak (pe_ifExp hc ha hb) fun σ H Q ⟨S, F, Rl, q⟩ => ⟨S, F, Rl, Post.imp (Post.bind q) fun b S' H' F' e1 R1 q1 => by
    cases b with
    | true => exact ⟨S', F', R1, q1⟩
    | false => exact ⟨S', F', R1, q1⟩⟩
/-! ### lists of expressions, displays -/
noncomputable def gNil : M (List D) := M.pure []
noncomputable def gCons (ga : M D) (gr : M (List D)) : M (List D) := M.bind ga fun a => M.bind gr fun r => M.pure (a :: r)
theorem ga_nil : GA Γ fx E X [] gNil := PA.weak pa_nil fun σ H Q ⟨S, F, Rl, q⟩ => Post.pure q Rl [] rfl
theorem ga_cons {e : Expr} {es : List Expr} {ga : M D} {gr : M (List D)} (ha : GV Γ fx E X e ga) (hr : GA Γ fx E X es gr) (hs : starEach (e :: es) X.env = (false, eval e X.env) :: starEach es X.env := by rfl) : GA Γ fx E X (e :: es) (gCons ga gr) :=
  PA.weak (pa_cons ha hr hs) fun σ H Q ⟨S, F, Rl, q⟩ => ⟨S, F, Rl, Post.imp (Post.bind q) fun d S1 H1 F1 e1 R1 q1 v r1 => ⟨S1, F1, R1, Post.imp (Post.bind q1) fun ds S2 H2 F2 e2 R2 q2 vs r2 =>
    Post.pure q2 R2 _ (Reps.cons (r1.mono e2) r2)⟩⟩
noncomputable def gTup (g : M (List D)) : M D := M.bind g fun ds => if ds.length ≤ sizeLine then M.pure (.tup ds) else M.bad
theorem gv_tup {es : List Expr} {g : M (List D)} {x1} (h : GA Γ fx E X es g) : GV Γ fx E X (.Tuple es x1 pos) (gTup g) :=
  PE.weak (pe_tup h) fun σ H Q ⟨S, F, Rl, q⟩ => ⟨S, F, Rl, Post.imp (Post.bind q) fun ds S1 H1 F1 e1 R1 q1 vs r => by
    split at q1
    · rename_i hl
      refine ⟨by rw [← r.len]; exact hl, fun p hp => ?_⟩
      obtain ⟨e2, R2⟩ := R1.make (u := .tup vs) hp
      exact q1 _ _ e2 R2 _ ⟨p, vs, rfl, .inl (.inl upd_same), r.mono e2⟩
    · exact q1.elim⟩
noncomputable def gLst (g : M (List D)) : M Pv := M.bind g fun ds => if ds.length ≤ sizeLine then M.pure (.fr (.lst ds)) else M.bad
/-- a list just laid -/
theorem new_list {S : Slots} {σ : L2.St} {H F : Hp} {ds : List D} {vs : List V} {p : Addr} (Rl : Rel Γ fx S σ H F) (r : Reps Γ F ds vs) (hp : H p = none) : Rel Γ fx S σ (upd H p (.lst vs)) F ∧ PvOk Γ fx S σ (upd H p (.lst vs)) F (.fr (.lst ds)) (.ref p) := by
  obtain ⟨f1, f2, f3, f4⟩ := Rl.fresh hp
  exact ⟨Rl.lay hp, p, rfl, f1, ⟨vs, upd_same, r⟩, f4, f2, fun i o b e q => Rl.ownNe e q hp rfl⟩
theorem ge_lst {es : List Expr} {g : M (List D)} (h : GA Γ fx E X es g) : GE Γ fx E X (.List es pos) (gLst g) :=
  PE.weak (pe_lst h) fun σ H Q ⟨S, F, Rl, q⟩ => ⟨S, F, Rl, Post.imp (Post.bind q) fun ds S1 H1 F1 e1 R1 q1 vs r => by
    split at q1
    · rename_i hl
      refine ⟨by rw [← r.len]; exact hl, fun p hp => ?_⟩
      obtain ⟨R2, ok⟩ := new_list R1 r hp
      exact q1 _ _ (Ext.refl _) R2 _ ok
    · exact q1.elim⟩
end
end G
namespace G
open PySem PySem.Spec PyProof.Rows L2
/-! ### statements -/
inductive Fl where
  | nx | bk | ct
  | rt (pv : Pv)
section
variable (Γ : Gam) (fx : Fx) (E : WX)
noncomputable def PostS (F : Hp) (r : R (Fl × Slots)) (D : Ends) : Prop :=
  match r with
  | .ok (.nx, S') => ∀ σ' H' F', Ext F F' → Rel Γ fx S' σ' H' F' → D.nx σ' H'
  | .ok (.bk, S') => ∀ σ' H' F', Ext F F' → Rel Γ fx S' σ' H' F' → D.bk σ' H'
  | .ok (.ct, S') => ∀ σ' H' F', Ext F F' → Rel Γ fx S' σ' H' F' → D.ct σ' H'
  | .ok (.rt pv, S') => ∀ σ' H' F' v, Ext F F' → Rel Γ fx S' σ' H' F' → PvOk Γ fx S' σ' H' F' pv v → D.rt v H'
  | .exc x S' => ∀ σ' cls d H' F', Ext F F' → Rel Γ fx S' σ' H' F' → XRep Γ F' H' x cls d → E cls d σ' H'
  | .bad => False
noncomputable def tS (g : M Fl) : TS := fun D σ H => ∃ S F, Rel Γ fx S σ H F ∧ PostS Γ fx E F (g S) D
noncomputable def GS (X : Cx) (st : Stmt) (g : M Fl) : Prop := PS X st (tS Γ fx E g)
noncomputable def GSs (X : Cx) (st : List Stmt) (g : M Fl) : Prop := PSs X st (tS Γ fx E g)
end
/-! ### a call -/
inductive Rv where
  | val (d : D)
  | own (o : Ov)
  | cb (f : CF)
/-- how a call ends: its value, what became of what was lent -/
inductive FR where
  | ok (r : Rv) (as : List Rv)
  | exc (x : Xn) (as : List Rv)
  | bad
noncomputable abbrev Fn := List Rv → FR
noncomputable def lentTo (as : List Rv) (vs : List V) (i : Nat) (a : Addr) : Prop := ∃ o, as[i]? = some (.own o) ∧ vs[i]? = some (.ref a)
structure CbA (Γ : Gam) (C : Hp) (as : List Rv) (vs : List V) (H F : Hp) : Prop where
  bg : Bg Γ C H H
  cb : ∀ (i : Nat) (f : CF), as[i]? = some (.cb f) → ∃ a, vs[i]? = some (.ref a) ∧ cbP Γ (fun _ => True) C F a f
structure Args (Γ : Gam) (as : List Rv) (vs : List V) (H F : Hp) : Prop where
  cbx : ∃ C, CbA Γ C as vs H F
  fnx : ∀ a o, F a = some o → NX o
  len : as.length = vs.length
  sub : Ext F H
  val : ∀ (i : Nat) (d : D), as[i]? = some (.val d) → ∃ v, vs[i]? = some v ∧ Rep Γ F d v
  own : ∀ (i : Nat) (o : Ov), as[i]? = some (.own o) → ∃ a, vs[i]? = some (.ref a) ∧ F a = none ∧ OwnAt Γ F H o a
  inj : ∀ (i j : Nat) (a : Addr), lentTo as vs i a → lentTo as vs j a → i = j
structure After (Γ : Gam) (as : List Rv) (vs : List V) (H F : Hp) (as' : List Rv) (H' F' : Hp) : Prop where
  ext : Ext F F'
  sub : Ext F' H'
  new : ∀ a o, F' a = some o → F a = some o ∨ H a = none
  frm : ∀ a o, H a = some o → (∀ ps, o ≠ .tbl ps) → (∀ i, ¬ lentTo as vs i a) → H' a = some o
  tab : LamX.Tabs Γ.T H'
  fnx : ∀ a o, F' a = some o → NX o
  frt : ∀ a ps, H a = some (.tbl ps) → ∃ more, H' a = some (.tbl (ps ++ more))
  own : ∀ (i : Nat) (a : Addr), lentTo as vs i a → F' a = none ∧ ∃ o, as'[i]? = some (.own o) ∧ OwnAt Γ F' H' o a
noncomputable def RvOk (Γ : Gam) (H H' F' : Hp) : Rv → V → Prop
  | .val d, v => Rep Γ F' d v
  | .own o, v => ∃ a, v = .ref a ∧ F' a = none ∧ H a = none ∧ OwnAt Γ F' H' o a
  | .cb _, _ => False
noncomputable def FWant (Γ : Gam) (as : List Rv) (vs : List V) (H F : Hp) (Q : VK) (E : XK) (r : FR) : Prop :=
  match r with
  | .ok r as' => ∀ v H' F', After Γ as vs H F as' H' F' → RvOk Γ H H' F' r v → Q v H'
  | .exc x as' => ∀ cls d H' F', After Γ as vs H F as' H' F' → XRep Γ F' H' x cls d → E cls d H'
  | .bad => False
/-- the promise that a call does what f says -/
noncomputable def spG (Γ : Gam) (n : Nat) (f : Fn) : Sp := fun vs H Q E => ∃ as F, Args Γ as vs H F ∧ as.length = n ∧ FWant Γ as vs H F Q E (f as)
theorem spG.len {Γ : Gam} {n : Nat} {f : Fn} : ∀ vs H Q E, spG Γ n f vs H Q E → vs.length = n := fun vs H Q E ⟨as, F, A, hn, _⟩ => by rw [← A.len]; exact hn
/-! ### a def by its body -/
noncomputable def slot0 : Rv → Sv
  | .val d => .val d
  | .own o => .own o true
  | .cb f => .cb f
noncomputable def slots0 (n : Nat) (as : List Rv) : Slots := as.map slot0 ++ List.replicate (n - as.length) .no
/-- what became of what was lent -/
noncomputable def lentOf (S : Slots) : Nat → List Rv → Option (List Rv)
  | _, [] => some []
  | i, .val d :: r => (lentOf S (i + 1) r).map (.val d :: ·)
  | i, .cb f :: r => (lentOf S (i + 1) r).map (.cb f :: ·)
  | i, .own _ :: r => match S[i]? with
    | some (.own o true) => (lentOf S (i + 1) r).map (.own o :: ·)
    | _ => none
noncomputable def retOf (S : Slots) : Pv → Option Rv
  | .dat d => some (.val d)
  | .fr o => some (.own o)
  | .sl i => match S[i]? with
    | some (.own o false) => some (.own o)
    | _ => none
noncomputable def fin (as : List Rv) (pv : Pv) (S : Slots) : FR := match lentOf S 0 as, retOf S pv with
  | some as', some r => .ok r as'
  | _, _ => .bad
noncomputable def defFn (n : Nat) (g : M Fl) : Fn := fun as => match g (slots0 n as) with
  | .ok (.nx, S) => fin as (.dat .non) S
  | .ok (.rt pv, S) => fin as pv S
  | .exc x S => match lentOf S 0 as with
    | some as' => .exc x as'
    | none => .bad
  | _ => .bad
theorem lentTo_fn {as : List Rv} {vs : List V} (i : Nat) (a b : Addr) (h1 : lentTo as vs i a) (h2 : lentTo as vs i b) : a = b := by
  obtain ⟨_, _, e1⟩ := h1
  obtain ⟨_, _, e2⟩ := h2
  rw [e1] at e2; cases e2; rfl
noncomputable def fx0 (as : List Rv) (vs : List V) (H F C : Hp) : Fx := ⟨H, F, lentTo as vs, fun _ => none, C, fun _ _ => True, lentTo_fn⟩
theorem rel0 {Γ : Gam} {as : List Rv} {vs : List V} {H F C : Hp} {N : List Str} (A : Args Γ as vs H F) (hC : CbA Γ C as vs H F) (hn : vs.length ≤ N.length) : Rel Γ (fx0 as vs H F C) (slots0 N.length as) (L2.start N vs) H F := by
  have hs : ∀ {i : Nat} {v : V}, vs[i]? = some v → (L2.start N vs)[i]? = some (some v) := fun {i v} e => by
    unfold L2.start
    have hl := (List.getElem?_eq_some_iff.mp e).1
    rw [List.getElem?_append_left (by rw [List.length_map]; exact hl), List.getElem?_map, e]; rfl
  have g : ∀ {i : Nat} {sv : Sv}, (slots0 N.length as)[i]? = some sv → sv ≠ .no → ∃ r, as[i]? = some r ∧ sv = slot0 r := fun {i sv} e hne => by
    unfold slots0 at e
    by_cases hl : i < as.length
    · rw [List.getElem?_append_left (by rw [List.length_map]; exact hl), List.getElem?_map] at e
      cases q : as[i]? with
      | none => rw [q] at e; cases e
      | some r => rw [q] at e; cases e; exact ⟨r, rfl, rfl⟩
    · rw [List.getElem?_append_right (by rw [List.length_map]; omega), List.getElem?_replicate] at e
      split at e
      · cases e; exact absurd rfl hne
      · cases e
  have gv : ∀ {i : Nat} {d : D}, (slots0 N.length as)[i]? = some (.val d) → as[i]? = some (.val d) := fun {i d} e => by
    obtain ⟨r, e1, e2⟩ := g e (by simp)
    cases r with
    | val d' => cases e2; exact e1
    | own o => cases e2
    | cb f => cases e2
  have go : ∀ {i : Nat} {o : Ov} {b : Bool}, (slots0 N.length as)[i]? = some (.own o b) → as[i]? = some (.own o) ∧ b = true := fun {i o b} e => by
    obtain ⟨r, e1, e2⟩ := g e (by simp)
    cases r with
    | val d' => cases e2
    | cb f => cases e2
    | own o' => cases e2; exact ⟨e1, rfl⟩
  have gc : ∀ {i : Nat} {f : CF}, (slots0 N.length as)[i]? = some (.cb f) → as[i]? = some (.cb f) := fun {i f} e => by
    obtain ⟨r, e1, e2⟩ := g e (by simp)
    cases r with
    | val d' => cases e2
    | own o => cases e2
    | cb f => cases e2; exact e1
  have gi : ∀ {i : Nat} {v : V}, (L2.start N vs)[i]? = some (some v) → vs[i]? = some v := fun {i v} e => by
    unfold L2.start at e
    by_cases hl : i < vs.length
    · rw [List.getElem?_append_left (by rw [List.length_map]; exact hl), List.getElem?_map] at e
      cases q : vs[i]? with
      | none => rw [q] at e; cases e
      | some r => rw [q] at e; cases e; rfl
    · rw [List.getElem?_append_right (by rw [List.length_map]; omega), List.getElem?_replicate] at e
      split at e <;> cases e
  exact {
    bg := hC.bg
    cb := fun i f e => by
      obtain ⟨a, e1, h2⟩ := hC.cb i f (gc e)
      exact ⟨a, hs e1, h2⟩
    tnx := fun a o e => by cases e
    fnx := A.fnx
    len := by
      unfold slots0 L2.start
      rw [List.length_append, List.length_append, List.length_map, List.length_map, List.length_replicate, List.length_replicate, A.len]
    val := fun i d e => by
      obtain ⟨v, e1, r⟩ := A.val i d (gv e)
      exact ⟨v, hs e1, r⟩
    own := fun i o b e => by
      obtain ⟨e1, rfl⟩ := go e
      obtain ⟨a, e2, e3, e4⟩ := A.own i o e1
      exact ⟨a, hs e2, e3, e4, rfl, o, e1, e2⟩
    inj := fun i j o o' b b' a e1 e2 e3 e4 => A.inj i j a ⟨o, (go e1).1, gi e3⟩ ⟨o', (go e2).1, gi e4⟩
    sub := A.sub
    sub0 := Ext.refl F
    new := fun a o e => .inl e
    frm := fun a o e _ _ => e
    wth := fun a ⟨i, o, e1, e2⟩ => by
      obtain ⟨a', e3, e4, e5⟩ := A.own i o e1
      rw [e2] at e3; cases e3
      exact e5.there
    tmp := fun a o e => by cases e }
theorem lentOf_get {S : Slots} : ∀ {as : List Rv} {k : Nat} {as' : List Rv}, lentOf S k as = some as' → ∀ (i : Nat) (o : Ov), as[i]? = some (.own o) → ∃ o', S[k + i]? = some (.own o' true) ∧ as'[i]? = some (.own o')
  | [], _, _, _, i, o, e => by simp at e
  | .val d :: r, k, as', h, i, o, e => by
    unfold lentOf at h
    cases q : lentOf S (k + 1) r with
    | none => rw [q] at h; cases h
    | some rs =>
      rw [q] at h; cases h
      cases i with
      | zero => simp at e
      | succ i =>
        obtain ⟨o', h1, h2⟩ := lentOf_get q i o (by simpa using e)
        exact ⟨o', by rw [← h1]; congr 1; omega, by simpa using h2⟩
  | .cb d :: r, k, as', h, i, o, e => by
    unfold lentOf at h
    cases q : lentOf S (k + 1) r with
    | none => rw [q] at h; cases h
    | some rs =>
      rw [q] at h; cases h
      cases i with
      | zero => simp at e
      | succ i =>
        obtain ⟨o', h1, h2⟩ := lentOf_get q i o (by simpa using e)
        exact ⟨o', by rw [← h1]; congr 1; omega, by simpa using h2⟩
  | .own p :: r, k, as', h, i, o, e => by
    unfold lentOf at h
    split at h
    · rename_i o1 e1
      cases q : lentOf S (k + 1) r with
      | none => rw [q] at h; cases h
      | some rs =>
        rw [q] at h; cases h
        cases i with
        | zero => exact ⟨o1, e1, rfl⟩
        | succ i =>
          obtain ⟨o', h1, h2⟩ := lentOf_get q i o (by simpa using e)
          exact ⟨o', by rw [← h1]; congr 1; omega, by simpa using h2⟩
    · cases h
theorem after0 {Γ : Gam} {as as' : List Rv} {vs : List V} {H F C : Hp} {S' : Slots} {σ' : L2.St} {H' F' : Hp} (A : Args Γ as vs H F) (R : Rel Γ (fx0 as vs H F C) S' σ' H' F') (h : lentOf S' 0 as = some as') : After Γ as vs H F as' H' F' where
  ext := R.sub0
  sub := R.sub
  new := fun a o e => by
    rcases R.new a o e with z | z | ⟨i, ⟨o', e1, e2⟩⟩
    · exact .inl z
    · exact .inr z
    · exfalso
      obtain ⟨o2, e3, _⟩ := lentOf_get h i o' e1
      rw [Nat.zero_add] at e3
      obtain ⟨a', e4, e5, e6, _, ⟨o3, e7, e8⟩⟩ := R.own i o2 true e3
      rw [e2] at e8; cases e8
      rw [e] at e5; cases e5
  frm := fun a o e ht hn => R.frm a o e ht fun ⟨i, z⟩ => hn i z
  tab := R.bg.tab
  fnx := R.fnx
  frt := R.bg.frt
  own := fun i a ⟨o, e1, e2⟩ => by
    obtain ⟨o2, e3, e3'⟩ := lentOf_get h i o e1
    rw [Nat.zero_add] at e3
    obtain ⟨a', e4, e5, e6, _, ⟨o3, e7, e8⟩⟩ := R.own i o2 true e3
    rw [e2] at e8; cases e8
    exact ⟨e5, o2, e3', e6⟩
theorem defFn_end {Γ : Gam} {n : Nat} {g : M Fl} {as : List Rv} {vs : List V} {H F0 C : Hp} {Q : VK} {E : XK} (Ar : Args Γ as vs H F0) (q : FWant Γ as vs H F0 Q E (defFn n g as)) :
    PostS Γ (fx0 as vs H F0 C) (upW E) F0 (g (slots0 n as)) { nx := fun _ H' => Q .non H', rt := Q } := by
  unfold FWant defFn at q
  have hfin : ∀ (pv : Pv) (S' : Slots) σ' H' F' v, Rel Γ (fx0 as vs H F0 C) S' σ' H' F' → PvOk Γ (fx0 as vs H F0 C) S' σ' H' F' pv v →
      (match fin as pv S' with
        | .ok r as' => ∀ v H' F', After Γ as vs H F0 as' H' F' → RvOk Γ H H' F' r v → Q v H'
        | .exc x as' => ∀ cls d H' F', After Γ as vs H F0 as' H' F' → XRep Γ F' H' x cls d → E cls d H'
        | .bad => False) → Q v H' := fun pv S' σ' H' F' v Rl ok q => by
    unfold fin at q
    cases e1 : lentOf S' 0 as with
    | none => rw [e1] at q; exact q.elim
    | some as' =>
      rw [e1] at q
      cases e2 : retOf S' pv with
      | none => rw [e2] at q; exact q.elim
      | some r =>
        rw [e2] at q
        refine q v H' F' (after0 Ar Rl e1) ?_
        cases pv with
        | dat d => cases e2; exact ok
        | fr o =>
          cases e2
          obtain ⟨a, h1, h2, h3, _, h4, _⟩ := ok
          exact ⟨a, h1, h2, h4, h3⟩
        | sl i =>
          simp only [retOf] at e2
          split at e2
          · rename_i o e3
            cases e2
            obtain ⟨a, h1, h2, h3, _, h4⟩ := Rl.own i o false e3
            obtain ⟨e4, _⟩ := ok
            rw [h1] at e4
            cases e4
            exact ⟨a, rfl, h2, h4, h3⟩
          · cases e2
  cases e : g (slots0 n as) with
  | bad => rw [e] at q; exact q.elim
  | exc x S' =>
    rw [e] at q
    cases e1 : lentOf S' 0 as with
    | none => simp only [e1] at q
    | some as' =>
      simp only [e1] at q
      exact fun σ' cls d H' F' _ Rl xr => q cls d H' F' (after0 Ar Rl e1) xr
  | ok p =>
    obtain ⟨fl, S'⟩ := p
    rw [e] at q
    cases fl with
    | nx => exact fun σ' H' F' _ Rl => hfin (.dat .non) S' σ' H' F' _ Rl rfl q
    | rt pv => exact fun σ' H' F' v _ Rl ok => hfin pv S' σ' H' F' v Rl ok q
    | bk => exact q.elim
    | ct => exact q.elim
end G
namespace G
open PySem PySem.Spec PyProof.Rows L2
section
variable {Γ : Gam} {fx : Fx} {E : WX} {X : Cx} {pos : Pos}
/-! ### statements -/
theorem PostS.mono {F F' : Hp} {r : R (Fl × Slots)} {D : Ends} (e : Ext F F') (h : PostS Γ fx E F r D) : PostS Γ fx E F' r D := by
  cases r with
  | ok p =>
    obtain ⟨fl, S'⟩ := p
    cases fl with
    | nx => exact fun σ' H1 F1 e1 Rl => h σ' H1 F1 (e.trans e1) Rl
    | bk => exact fun σ' H1 F1 e1 Rl => h σ' H1 F1 (e.trans e1) Rl
    | ct => exact fun σ' H1 F1 e1 Rl => h σ' H1 F1 (e.trans e1) Rl
    | rt pv => exact fun σ' H1 F1 v e1 Rl => h σ' H1 F1 v (e.trans e1) Rl
  | exc x S' => exact fun σ' cls d H1 F1 e1 Rl x => h σ' cls d H1 F1 (e.trans e1) Rl x
  | bad => exact h
noncomputable def seqk (g : M Fl) : Fl → M Fl
  | .nx => g
  | .bk => M.pure .bk
  | .ct => M.pure .ct
  | .rt pv => M.pure (.rt pv)
noncomputable def gSeq (g1 g2 : M Fl) : M Fl := M.bind g1 (seqk g2)
/-- behind a statement -/
theorem PostS.seq {F : Hp} {g1 g2 : M Fl} {S : Slots} {D : Ends} (h : PostS Γ fx E F (gSeq g1 g2 S) D) : PostS Γ fx E F (g1 S) { D with nx := tS Γ fx E g2 D } := by
  have h' := h
  unfold gSeq M.bind at h'
  cases e : g1 S with
  | bad => rw [e] at h'; exact h'
  | exc x S' => rw [e] at h'; exact h'
  | ok p =>
    obtain ⟨fl, S'⟩ := p
    rw [e] at h'
    cases fl with
    | nx => exact fun σ' H' F' e1 Rl => ⟨S', F', Rl, PostS.mono e1 h'⟩
    | bk => exact h'
    | ct => exact h'
    | rt pv => exact h'
/-- a statement behind an expression -/
theorem PostS.expr {α : Type} {F : Hp} {σ : L2.St} {g : M α} {f : α → M Fl} {S : Slots} {D : Ends} (h : PostS Γ fx E F (M.bind g f S) D) : Post Γ fx E σ F (g S) fun a S' H' F' => PostS Γ fx E F' (f a S') D := by
  unfold M.bind at h
  cases e : g S with
  | ok p => obtain ⟨a, S'⟩ := p; rw [e] at h; exact fun H' F' e1 _ => PostS.mono e1 h
  | exc x S' => rw [e] at h; exact fun cls d H' F' e1 Rl xr => h σ cls d H' F' e1 Rl xr
  | bad => rw [e] at h; exact h
theorem gss_nil : GSs Γ fx E X [] (M.pure .nx) := PSs.weak pss_nil fun D σ H ⟨S, F, Rl, q⟩ => q σ H F (Ext.refl F) Rl
theorem gss_cons {st : Stmt} {rest : List Stmt} {g1 g2 : M Fl} (h1 : GS Γ fx E X st g1) (h2 : GSs Γ fx E X rest g2) : GSs Γ fx E X (st :: rest) (gSeq g1 g2) :=
  PSs.weak (pss_cons h1 h2) fun D σ H ⟨S, F, Rl, q⟩ => ⟨S, F, Rl, PostS.seq q⟩
theorem gss_one {st : Stmt} {g1 : M Fl} (h1 : GS Γ fx E X st g1) : GSs Γ fx E X [st] g1 := pss_one h1
noncomputable def gExpr (g : M Pv) : M Fl := M.bind g fun _ => M.pure .nx
noncomputable def gRet (g : M Pv) : M Fl := M.bind g fun pv => M.pure (.rt pv)
theorem gs_ret {e : Expr} {g : M Pv} (he : GE Γ fx E X e g) : GS Γ fx E X (.Return (some e) pos) (gRet g) :=
  PS.weak (ps_ret he) fun D σ H ⟨S, F, Rl, q⟩ => ⟨S, F, Rl, Post.imp (PostS.expr q) fun a S' H' F' e1 R1 q1 v ok => q1 σ H' F' v (Ext.refl _) R1 ok⟩
noncomputable def gIfS (c : M Bool) (g1 g2 : M Fl) : M Fl := M.bind c fun b => if b then g1 else g2
theorem gs_if {c : Expr} {a b : List Stmt} {gc : M Bool} {g1 g2 : M Fl} (hc : GT Γ fx E X c gc) (ha : GSs Γ fx E X a g1) (hb : GSs Γ fx E X b g2) : GS Γ fx E X (.If c a b pos) (gIfS gc g1 g2) :=
  PS.weak (ps_if hc ha hb) fun D σ H ⟨S, F, Rl, q⟩ => ⟨S, F, Rl, Post.imp (PostS.expr q) fun b S' H' F' e1 R1 q1 => by
    cases b with
    | true => exact ⟨S', F', R1, q1⟩
    | false => exact ⟨S', F', R1, q1⟩⟩
/-! ### a name is set -/
noncomputable def putPv (i : Nat) : Pv → M Fl
  | .dat d => fun S => .ok (.nx, S.set i (.val d))
  | .fr o => fun S => .ok (.nx, S.set i (.own o false))
  | .sl j => fun S => match (Pv.sl j).give S with
    | .ok (d, S') => .ok (.nx, S'.set i (.val d))
    | _ => .bad
noncomputable def gSet (i : Nat) (g : M Pv) : M Fl := M.bind g (putPv i)
theorem put_post {i : Nat} {pv : Pv} {S : Slots} {σ : L2.St} {H F : Hp} {D : Ends} {v : V} (Rl : Rel Γ fx S σ H F) (h : PostS Γ fx E F (putPv i pv S) D) (ok : PvOk Γ fx S σ H F pv v) : D.nx (σ.set i (some v)) H := by
  cases pv with
  | dat d => exact h _ H F (Ext.refl F) (Rl.setVal ok)
  | fr o =>
    obtain ⟨a, rfl, e2, o1, eT, e3, e4⟩ := ok
    exact h _ H F (Ext.refl F) (Rl.setOwn e2 o1 eT e3 e4)
  | sl j =>
    obtain ⟨e, o, b, eo⟩ := ok
    obtain ⟨F', a, e1, ex, R', r⟩ := Rl.giveSlot eo
    rw [e] at e1
    cases e1
    have h' : PostS Γ fx E F (match (match S[j]? with | some (.own o _) => R.ok (o.d, S.set j (.val o.d)) | some (.val d) => .ok (d, S) | _ => .bad) with | .ok (d, S') => .ok (.nx, S'.set i (.val d)) | _ => .bad) D := h
    rw [eo] at h'
    exact h' _ H F' ex (R'.setVal r)
theorem gs_of {st : Stmt} {i : Nat} {t : TE} {g : M Pv} (h : PS X st (tAsg t (gName i))) (w : ∀ σ H Q, tG Γ fx E g σ H Q → t σ H Q) : GS Γ fx E X st (gSet i g) :=
  PS.weak h fun D σ H ⟨S, F, Rl, q⟩ => w σ H _ ⟨S, F, Rl, Post.imp (PostS.expr q) fun pv S' H' F' e1 R1 q1 v ok => put_post R1 q1 ok⟩
theorem gs_set (i : Nat) {x : Str} {e : Expr} {g : M Pv} {pos' : Pos} (hN : X.N.Nodup) (he : GE Γ fx E X e g) (hi : X.N[i]? = some x := by rfl) (hx : Loc X.env.scope x := by first | exact Or.inl rfl | exact Or.inr rfl) (hs : swapsWith e (some (.Name x pos')) pos.line X.env = pure false := by rfl)
    (hf : X.fn x = true ∨ X.env.scope.names.lookup x = some .local := by first | exact .inl rfl | exact .inr rfl | assumption) : GS Γ fx E X (.Assign [.Name x pos'] e pos) (gSet i g) :=
  gs_of (ps_set hN hi hx he hs hf) fun _ _ _ h => h
/-! ### targets -/
noncomputable abbrev MT := D → M Unit
/-- but for the slots vs the names hold what they held -/
noncomputable def Agree (vs : List Nat) (σ σ' : L2.St) : Prop := σ'.length = σ.length ∧ ∀ i, i ∉ vs → σ'[i]? = σ[i]?
theorem Agree.refl (vs : List Nat) (σ : L2.St) : Agree vs σ σ := ⟨rfl, fun _ _ => rfl⟩
theorem Agree.trans {vs us : List Nat} {σ σ1 σ2 : L2.St} (a : Agree vs σ σ1) (b : Agree us σ1 σ2) : Agree (vs ++ us) σ σ2 :=
  ⟨b.1.trans a.1, fun i hi => (b.2 i fun z => hi (List.mem_append_right _ z)).trans (a.2 i fun z => hi (List.mem_append_left _ z))⟩
noncomputable def PostT (Γ : Gam) (fx : Fx) (vs : List Nat) (σ : L2.St) (F : Hp) (r : R (Unit × Slots)) (Q : L2.St → Hp → Prop) : Prop :=
  match r with
  | .ok (_, S') => ∀ σ' H' F', Ext F F' → Rel Γ fx S' σ' H' F' → Agree vs σ σ' → Q σ' H'
  | _ => False
noncomputable def tTG (Γ : Gam) (fx : Fx) (vs : List Nat) (b : MT) : TG := fun v σ H Q => ∃ S F d, Rel Γ fx S σ H F ∧ Rep Γ F d v ∧ PostT Γ fx vs σ F (b d S) Q
noncomputable def GG (Γ : Gam) (fx : Fx) (X : Cx) (tg : Expr) (vs : List Nat) (b : MT) : Prop := PG X tg (tTG Γ fx vs b)
noncomputable abbrev MTs := List D → M Unit
theorem PG.weak {tg : Expr} {t t' : TG} (h : PG X tg t) (w : ∀ v σ H Q, t' v σ H Q → t v σ H Q) : PG X tg t' := ⟨fun pins s σ H v u Q I r q => h.run pins s σ H v u Q I r (w v σ H Q q)⟩
theorem PostT.mono {vs : List Nat} {σ : L2.St} {F F' : Hp} {r : R (Unit × Slots)} {Q : L2.St → Hp → Prop} (e : Ext F F') (h : PostT Γ fx vs σ F r Q) : PostT Γ fx vs σ F' r Q := by
  cases r with
  | ok p => exact fun σ' H1 F1 e1 Rl a => h σ' H1 F1 (e.trans e1) Rl a
  | exc x S' => exact h
  | bad => exact h
noncomputable def bName (i : Nat) : MT := fun d S => .ok ((), S.set i (.val d))
theorem gg_name (i : Nat) {x : Str} (hN : X.N.Nodup) (hi : X.N[i]? = some x := by rfl) (hx : Loc X.env.scope x := by first | exact Or.inl rfl | exact Or.inr rfl) (hf : X.fn x = true ∨ X.env.scope.names.lookup x = some .local := by first | exact .inl rfl | exact .inr rfl | assumption) : GG Γ fx X (.Name x pos) [i] (bName i) :=
  PG.weak (pg_name hN hi hx hf) fun v σ H Q ⟨S, F, d, Rl, r, q⟩ => q _ H F (Ext.refl F) (Rl.setVal r) ⟨List.length_set, fun j hj => List.getElem?_set_ne fun z => hj (by rw [z]; exact List.mem_singleton_self j)⟩
noncomputable def bNil : MTs
  | [] => M.pure ()
  | _ => M.bad
noncomputable def bCons (b : MT) (bs : MTs) : MTs
  | d :: r => M.bind (b d) fun _ => bs r
  | _ => M.bad
theorem PostT.imp {vs us : List Nat} {σ : L2.St} {F : Hp} {r : R (Unit × Slots)} {Q Q' : L2.St → Hp → Prop} (h : PostT Γ fx vs σ F r Q) (w : ∀ σ H, Agree vs σ σ → Q σ H → Q' σ H) : PostT Γ fx vs σ F r Q' := by
  cases r with
  | ok p => exact fun σ' H1 F1 e1 Rl a => w _ _ (Agree.refl _ _) (h σ' H1 F1 e1 Rl a)
  | exc x S' => exact h
  | bad => exact h
theorem PostT.bind {vs us : List Nat} {σ : L2.St} {F : Hp} {g : M Unit} {f : M Unit} {S : Slots} {Q : L2.St → Hp → Prop} (h : PostT Γ fx (vs ++ us) σ F (M.bind g (fun _ => f) S) Q) : PostT Γ fx vs σ F (g S) fun σ' H' => ∃ S' F', Rel Γ fx S' σ' H' F' ∧ Ext F F' ∧ PostT Γ fx us σ' F' (f S') Q := by
  unfold M.bind at h
  cases e : g S with
  | ok p =>
    obtain ⟨a, S'⟩ := p
    rw [e] at h
    have h : PostT Γ fx (vs ++ us) σ F (f S') Q := h
    refine fun σ' H' F' e1 Rl ag => ⟨S', F', Rl, e1, ?_⟩
    cases e2 : f S' with
    | ok p2 => rw [e2] at h; exact fun σ2 H2 F2 e3 R2 a2 => h σ2 H2 F2 (e1.trans e3) R2 (ag.trans a2)
    | exc x S2 => rw [e2] at h; exact h
    | bad => rw [e2] at h; exact h
  | exc x S' => rw [e] at h; exact h
  | bad => rw [e] at h; exact h
noncomputable def bTup (n : Nat) (bs : MTs) : MT
  | .tup ds => if ds.length = n then bs ds else M.bad
  | _ => M.bad
/-- target = value -/
noncomputable def gAsg (g : M D) (b : MT) : M Fl := M.bind g fun d => M.bind (b d) fun _ => M.pure .nx
theorem PostT.nx {F : Hp} {g : M Unit} {S : Slots} {D : Ends} (h : PostS Γ fx E F (M.bind g (fun _ => M.pure Fl.nx) S) D) {us : List Nat} {σ : L2.St} (hg : ∀ x S', g S ≠ .exc x S') : PostT Γ fx us σ F (g S) D.nx := by
  unfold M.bind at h
  cases e : g S with
  | ok p => obtain ⟨a, S'⟩ := p; rw [e] at h; exact fun σ' H' F' e1 Rl _ => h σ' H' F' e1 Rl
  | exc x S' => exact absurd e (hg x S')
  | bad => rw [e] at h; exact h
/-- a target raises nothing -/
noncomputable def NoX (b : MT) : Prop := ∀ d S x S', b d S ≠ .exc x S'
theorem nox_name {i : Nat} : NoX (bName i) := fun d S x S' h => by cases h
theorem gs_asg {tg e : Expr} {g : M D} {us : List Nat} {b : MT} (he : GV Γ fx E X e g) (hg : GG Γ fx X tg us b) (hx : NoX b) (hs : swapsWithSole [tg] e pos.line X.env = pure false := by rfl) (hw : swappedStores [tg] e X.env = pure none := by rfl)
    (h1 : (assignEach [tg] X.env).map (·.2) = [assign tg X.env] := by rfl) : GS Γ fx E X (.Assign [tg] e pos) (gAsg g b) :=
  PS.weak (ps_asg he hg hs hw h1) fun D σ H ⟨S, F, Rl, q⟩ => ⟨S, F, Rl, Post.imp (PostS.expr q) fun d S' H' F' e1 R1 q1 v r => ⟨S', F', d, R1, r, PostT.nx q1 fun x S'' => hx d S' x S''⟩⟩
/-! ### while -/
/-! ### for -/
/-- an iterator that gives just these data, whatever is laid meanwhile -/
noncomputable def Yields (Γ : Gam) (J : It) (ds : List D) (F : Hp) : Prop := ∀ (i : Nat) (H F' : Hp), Ext F F' → Ext F' H →
  (i < ds.length → J.go i H) ∧ (ds.length ≤ i → J.stop i H) ∧ ∀ x H' d, J.yld i H x H' → ds[i]? = some d → (H' = H ∧ Rep Γ F' d x) ∨ ∃ p u, (H p = none ∧ NX u) ∧ H' = upd H p u ∧ ∀ F2, Ext F' F2 → F2 p = some u → Rep Γ F2 d x
noncomputable def tI (Γ : Gam) (fx : Fx) (E : WX) (gi : M (List D)) : TI := fun σ H Rr => ∃ S F, Rel Γ fx S σ H F ∧ Post Γ fx E σ F (gi S) fun ds S' H' F' => ∀ J, Yields Γ J ds F' → Rr J H'
noncomputable def GI (Γ : Gam) (fx : Fx) (E : WX) (X : Cx) (tg iter : Expr) (gi : M (List D)) : Prop := PI X tg iter (tI Γ fx E gi)
theorem PI.weak {tg iter : Expr} {t t' : TI} (h : PI X tg iter t) (w : ∀ σ H Q, t' σ H Q → t σ H Q) : PI X tg iter t' := ⟨fun pins s σ H Q I q => h.run pins s σ H Q I (w σ H Q q)⟩
theorem Rel.yield {S : Slots} {σ : L2.St} {H F H' : Hp} {d : D} {x : V} (Rl : Rel Γ fx S σ H F) (h : (H' = H ∧ Rep Γ F d x) ∨ ∃ p u, (H p = none ∧ NX u) ∧ H' = upd H p u ∧ ∀ F2, Ext F F2 → F2 p = some u → Rep Γ F2 d x) : ∃ F', Ext F F' ∧ Rel Γ fx S σ H' F' ∧ Rep Γ F' d x := by
  rcases h with ⟨rfl, r⟩ | ⟨p, u, hp, rfl, r⟩
  · exact ⟨F, Ext.refl F, Rl, r⟩
  · obtain ⟨hp, nu⟩ := hp
    obtain ⟨e, R'⟩ := Rl.make (u := u) hp nu
    exact ⟨_, e, R', r _ e upd_same⟩
noncomputable def loop (b : MT) (g : M Fl) : List D → M Fl
  | [] => M.pure .nx
  | d :: r => M.bind (b d) fun _ => M.bind g fun fl => match fl with
    | .nx => loop b g r
    | .ct => loop b g r
    | .bk => M.pure .nx
    | .rt pv => M.pure (.rt pv)
noncomputable def gFor (gi : M (List D)) (b : MT) (g : M Fl) : M Fl := M.bind gi (loop b g)
theorem PostS.unit {F : Hp} {g : M Unit} {f : M Fl} {S : Slots} {D : Ends} (h : PostS Γ fx E F (M.bind g (fun _ => f) S) D) {us : List Nat} {σ : L2.St} (hg : ∀ x S', g S ≠ .exc x S') : PostT Γ fx us σ F (g S) fun σ' H' => ∃ S' F', Rel Γ fx S' σ' H' F' ∧ Ext F F' ∧ PostS Γ fx E F' (f S') D := by
  unfold M.bind at h
  cases e : g S with
  | ok p => obtain ⟨a, S'⟩ := p; rw [e] at h; exact fun σ' H' F' e1 Rl _ => ⟨S', F', Rl, e1, PostS.mono e1 h⟩
  | exc x S' => exact absurd e (hg x S')
  | bad => rw [e] at h; exact h
theorem gs_for {tg iter : Expr} {body : List Stmt} {gi : M (List D)} {us : List Nat} {b : MT} {gb : M Fl} (hp : PassesOwn (model X.prog X.w) X.A X.env X.xe) (hc : X.calm = true) (hi : GI Γ fx E X tg iter gi) (hg : GG Γ fx X tg us b) (hx : NoX b) (hb : GSs Γ fx E X body gb)
    (hs : ∀ x, foldedSetIterable iter X.env x = pure x := by intro _; rfl) : GS Γ fx E X (.For tg iter body [] pos) (gFor gi b gb) :=
  PS.weak (ps_for hp hc hi hg hb hs) fun D σ H ⟨S, F, Rl, q⟩ => ⟨S, F, Rl, Post.imp (PostS.expr q) fun ds S1 H1 F1 e1 R1 q1 J hJ => by
    refine ⟨fun i m σ H => m = ds.length - i ∧ i ≤ ds.length ∧ ∃ S F, Ext F1 F ∧ Rel Γ fx S σ H F ∧ PostS Γ fx E F (loop b gb (ds.drop i) S) D, ⟨ds.length, rfl, Nat.zero_le _, S1, F1, Ext.refl _, R1, q1⟩, ?_⟩
    rintro i m σ2 H2 ⟨rfl, hi, S2, F2, e2, R2, q2⟩
    obtain ⟨y1, y2, y3⟩ := hJ i H2 F2 e2 R2.sub
    by_cases hl : i < ds.length
    · refine .inr ⟨y1 hl, fun σ' H' => ∃ S F, Ext F1 F ∧ Rel Γ fx S σ' H' F ∧ PostS Γ fx E F (loop b gb (ds.drop (i + 1)) S) D, fun σ' H' h => ⟨_, by omega, rfl, hl, h⟩, fun x H3 hy => ?_⟩
      obtain ⟨F3, e3, R3, r3⟩ := R2.yield (y3 x H3 ds[i] hy (List.getElem?_eq_getElem hl))
      rw [List.drop_eq_getElem_cons hl] at q2
      refine ⟨S2, F3, ds[i], R3, r3, PostT.imp (us := []) (PostS.unit (PostS.mono e3 q2) fun x S' => hx _ _ x S') fun σ4 H4 _ ⟨S4, F4, R4, e4, q4⟩ => ⟨S4, F4, R4, ?_⟩⟩
      unfold M.bind at q4
      have ee : Ext F1 F4 := e2.trans (e3.trans e4)
      cases e : gb S4 with
      | bad => rw [e] at q4; exact q4
      | exc x S' => rw [e] at q4; exact q4
      | ok p =>
        obtain ⟨fl, S5⟩ := p
        rw [e] at q4
        cases fl with
        | nx => exact fun σ' H' F' e1 Rl => ⟨S5, F', ee.trans e1, Rl, PostS.mono e1 q4⟩
        | ct => exact fun σ' H' F' e1 Rl => ⟨S5, F', ee.trans e1, Rl, PostS.mono e1 q4⟩
        | bk => exact fun σ' H' F' e1 Rl => q4 σ' H' F' e1 Rl
        | rt pv => exact q4
    · refine .inl ⟨y2 (by omega), ?_⟩
      rw [List.drop_eq_nil_of_le (by omega)] at q2
      exact q2 σ2 H2 F2 (Ext.refl _) R2⟩
/-- over a list or a tuple -/
noncomputable def seqD : D → Option (List D)
  | .lst ds => some ds
  | .tup ds => some ds
  | .scr ds => some ds
  | _ => none
noncomputable def gSeqI (g : M D) : M (List D) := M.bind g fun d => M.lift (seqD d)
theorem yields_list {ds : List D} {F : Hp} {a : Addr} {vs : List V} (h : SqL Γ.K F a vs) (r : Reps Γ F ds vs) : Yields Γ (Itl Γ.K a) ds F := fun i H F' e1 e2 => by
  have hH : SqL Γ.K H a vs := e2.sqL (e1.sqL h)
  have hl := r.len
  refine ⟨fun hi => ⟨vs, vs[i], hH, by simp [← hl, hi]⟩, fun hi => ⟨vs, hH, by omega⟩, fun x H' d ⟨e3, hy⟩ hd => .inl ⟨e3, ?_⟩⟩
  obtain ⟨v, h1, h2⟩ := r.get hd
  have := hy vs hH
  rw [h1] at this; cases this
  exact h2.mono e1
theorem yields_tup {ds : List D} {F : Hp} {a : Addr} {vs : List V} (h : SqT Γ.K F a vs) (r : Reps Γ F ds vs) : Yields Γ (Itt Γ.K a) ds F := fun i H F' e1 e2 => by
  have hH : SqT Γ.K H a vs := e2.sqT (e1.sqT h)
  have hl := r.len
  refine ⟨fun hi => ⟨vs, vs[i], hH, by simp [← hl, hi]⟩, fun hi => ⟨vs, hH, by omega⟩, fun x H' d ⟨e3, hy⟩ hd => .inl ⟨e3, ?_⟩⟩
  obtain ⟨v, h1, h2⟩ := r.get hd
  have := hy vs hH
  rw [h1] at this; cases this
  exact h2.mono e1
theorem pi_seq {tg l : Expr} {tl : TE} (hl : PE X l tl) : PI X tg l (fun σ H R => tl σ H fun x H1 => ∃ a, x = .ref a ∧ (((∃ xs, SqL X.K H1 a xs) ∧ R (Itl X.K a) H1) ∨ ((∃ xs, SqT X.K H1 a xs) ∧ R (Itt X.K a) H1))) := by
  refine ⟨fun pins s σ H R I h => ?_⟩
  refine thn (hl.run pins s σ H _ I h) fun v s1 ⟨x, H1, I1, r1, q1⟩ => ?_
  obtain ⟨a, e, ⟨⟨xs, hq⟩, q⟩ | ⟨⟨xs, hq⟩, q⟩⟩ := q1
  · subst e
    cases r1
    obtain ⟨its, rv, p, hz⟩ := I1.list hq
    refine wpAny_pyIter_list p.isList ?_
    refine ⟨s1.heap.objs.size, [s1.heap.objs.size], _, _, H1, rfl, I1.kept (t' := s1.toks) fun b o e => Heap.get?_push_of_some _ e, turn_list a _, ⟨_, Heap.get?_push_size _ rfl, rfl, rfl⟩, fun b hb => ?_, q⟩
    have e : b = s1.heap.objs.size := by simpa using hb
    subst e
    exact I1.fpOk (Nat.le_refl _) (I1.hok.fresh (Nat.le_refl _))
  · subst e
    cases r1
    obtain ⟨its, rv, p, hz⟩ := I1.tuple hq
    refine wpAny_pyIter_tuple (show s1.heap.IsTuple a its.toArray from p) ?_
    refine ⟨s1.heap.objs.size, [s1.heap.objs.size], _, _, H1, rfl, I1.kept (t' := s1.toks) fun b o e => Heap.get?_push_of_some _ e, turn_tuple a _, ⟨_, Heap.get?_push_size _ rfl, rfl, rfl⟩, fun b hb => ?_, q⟩
    have e : b = s1.heap.objs.size := by simpa using hb
    subst e
    exact I1.fpOk (Nat.le_refl _) (I1.hok.fresh (Nat.le_refl _))
theorem gi_seq {tg l : Expr} {g : M D} (hk : Γ.K = X.K) (h : GV Γ fx E X l g) : GI Γ fx E X tg l (gSeqI g) :=
  PI.weak (pi_seq h) fun σ H R ⟨S, F, Rl, q⟩ => ⟨S, F, Rl, Post.imp (Post.bind q) fun d S1 H1 F1 e1 R1 q1 v r => by
    obtain ⟨ds, ed, k⟩ := Post.lift q1 R1
    have kk := k H1 F1 (Ext.refl _) R1
    rw [← hk]
    cases d with
    | lst ds' =>
      cases ed
      obtain ⟨a, vs, rfl, hL, rs⟩ := r
      exact ⟨a, rfl, .inl ⟨⟨vs, R1.sub.sqL (SqL.of hL)⟩, kk _ (yields_list (SqL.of hL) rs)⟩⟩
    | tup ds' =>
      cases ed
      obtain ⟨a, vs, rfl, hL, rs⟩ := r
      exact ⟨a, rfl, .inr ⟨⟨vs, R1.sub.sqT hL⟩, kk _ (yields_tup hL rs)⟩⟩
    | scr ds' =>
      cases ed
      obtain ⟨a, vs, rfl, hL, rs⟩ := r
      exact ⟨a, rfl, .inl ⟨⟨vs, R1.sub.sqL hL⟩, kk _ (yields_list hL rs)⟩⟩
    | _ => cases ed⟩
/-- over a range -/
noncomputable def rangeD (lo hi : Int) : List D := (List.range (hi - lo).toNat).map fun (i : Nat) => .int (lo + (i : Int))
noncomputable def asI : D → Option Int
  | .int i => some i
  | _ => none
theorem asI_rep {d : D} {i : Int} {v : V} {F : Hp} (e : asI d = some i) (r : Rep Γ F d v) : v = .int i := by
  cases d with
  | int c => cases e; exact r
  | _ => cases e
theorem yields_range {lo : Int} {n : Nat} {F : Hp} : Yields Γ (Itr lo n) ((List.range n).map fun (i : Nat) => .int (lo + (i : Int))) F := fun i H F' e1 e2 => by
  refine ⟨fun hi => by rw [List.length_map, List.length_range] at hi; exact hi, fun hi => by rw [List.length_map, List.length_range] at hi; exact hi, fun x H' d ⟨e3, hy⟩ hd => .inl ⟨e3, ?_⟩⟩
  subst hy
  rw [List.getElem?_map] at hd
  cases q : (List.range n)[i]? with
  | none => rw [q] at hd; cases hd
  | some j =>
    rw [q] at hd
    obtain ⟨h1, h2⟩ := List.getElem?_eq_some_iff.mp q
    rw [List.getElem_range] at h2
    subst h2
    cases hd
    exact rfl
noncomputable def inR (i : Int) : Bool := decide (-(2 ^ 62) ≤ i) && decide (i < 2 ^ 62)
theorem inR_of {i : Int} (h : inR i = true) : -(2 ^ 62) ≤ i ∧ i < 2 ^ 62 := by
  unfold inR at h
  rw [Bool.and_eq_true] at h
  exact ⟨of_decide_eq_true h.1, of_decide_eq_true h.2⟩
noncomputable def gRange1 (g : M D) : M (List D) := M.bind g fun d => match asI d with
  | some j => if inR j then M.pure (rangeD 0 j) else M.bad
  | none => M.bad
noncomputable def gRange2 (ga gb : M D) : M (List D) := M.bind ga fun d => M.bind gb fun e => match asI d, asI e with
  | some i, some j => if inR i && inR j then M.pure (rangeD i j) else M.bad
  | _, _ => M.bad
theorem gi_range1 {tg a : Expr} {g : M D} {p pos : Pos} (hm : X.mg "range" = none) (h : GV Γ fx E X a g) (hg : Gl X "range" := by rfl) (hs : starEach [a] X.env = [(false, eval a X.env)] := by rfl) : GI Γ fx E X tg (.Call (.Name "range" p) [a] [] pos) (gRange1 g) :=
  PI.weak (pi_range1 hg hm (pa_cons h pa_nil hs) hs) fun σ H R ⟨S, F, Rl, q⟩ => ⟨S, F, Rl, Post.imp (Post.bind q) fun d S1 H1 F1 e1 R1 q1 v r => by
    cases ed : asI d with
    | none => simp only [ed] at q1; exact q1.elim
    | some j =>
      simp only [ed] at q1
      have ev := asI_rep ed r
      subst ev
      split at q1
      · rename_i hj
        obtain ⟨h1, h2⟩ := inR_of hj
        refine ⟨j, rfl, h1, h2, ?_⟩
        have y := yields_range (Γ := Γ) (lo := 0) (n := (j - 0).toNat) (F := F1)
        rw [Int.sub_zero] at y
        exact Post.pure q1 R1 _ (by unfold rangeD; rw [Int.sub_zero]; exact y)
      · exact q1.elim⟩
end
end G
namespace G
open PySem PySem.Spec PyProof.Rows L2
section
variable {Γ : Gam} {fx : Fx} {E : WX} {X : Cx} {pos : Pos}
/-! ### an object laid aside -/
noncomputable def Fx.aside (fx : Fx) (a : Addr) (o : HO) : Fx := { fx with T := upd fx.T a o }
theorem Rel.aside {S : Slots} {σ : L2.St} {H F : Hp} {a : Addr} {o : HO} (R : Rel Γ fx S σ H F) (hH : H a = some o) (hF : F a = none) (hn : ∀ (i : Nat) (o' : Ov) (b : Bool), S[i]? = some (.own o' b) → σ[i]? ≠ some (some (.ref a)))
    (hx : ∀ ps, o ≠ .tbl ps := by first | exact nx_lst.1 | exact nx_ins.1 | exact nx_dK.1 | exact (by assumption : NX _).1 | assumption) : Rel Γ (fx.aside a o) S σ H F where
  bg := R.bg
  cb := R.cb
  fnx := R.fnx
  tnx := fun c u e => by
    have e' : upd fx.T a o c = some u := e
    by_cases q : c = a
    · subst q; rw [upd_same] at e'; cases e'; exact hx
    · rw [upd_ne q] at e'; exact R.tnx c u e'
  len := R.len
  val := R.val
  own := fun i o' b e => by
    obtain ⟨c, e1, e2, e3, e4, e5⟩ := R.own i o' b e
    refine ⟨c, e1, e2, e3, ?_, e5⟩
    show upd fx.T a o c = none
    rw [upd_ne fun q => hn i o' b e (by rw [e1, q])]; exact e4
  inj := R.inj
  sub := R.sub
  sub0 := R.sub0
  new := R.new
  frm := R.frm
  wth := R.wth
  tmp := fun c u e => by
    have e' : upd fx.T a o c = some u := e
    by_cases q : c = a
    · subst q; rw [upd_same] at e'; cases e'; exact ⟨hH, hF⟩
    · rw [upd_ne q] at e'; exact R.tmp c u e'
theorem Rel.unaside {S : Slots} {σ : L2.St} {H F : Hp} {a : Addr} {o : HO} (R : Rel Γ (fx.aside a o) S σ H F) (hT : fx.T a = none) : Rel Γ fx S σ H F where
  bg := R.bg
  cb := R.cb
  fnx := R.fnx
  tnx := fun c u e => R.tnx c u (by show upd fx.T a o c = some u; rw [upd_ne (ne_of_none e hT)]; exact e)
  len := R.len
  val := R.val
  own := fun i o' b e => by
    obtain ⟨c, e1, e2, e3, e4, e5⟩ := R.own i o' b e
    refine ⟨c, e1, e2, e3, ?_, e5⟩
    have e6 : upd fx.T a o c = none := e4
    by_cases q : c = a
    · subst q; rw [upd_same] at e6; cases e6
    · rw [upd_ne q] at e6; exact e6
  inj := R.inj
  sub := R.sub
  sub0 := R.sub0
  new := R.new
  frm := R.frm
  wth := R.wth
  tmp := fun c u e => R.tmp c u (by show upd fx.T a o c = some u; rw [upd_ne (ne_of_none e hT)]; exact e)
/-- the object that lies aside has changed -/
theorem Rel.turnAside {S : Slots} {σ : L2.St} {H F : Hp} {a : Addr} {o o' : HO} (R : Rel Γ (fx.aside a o) S σ H F) (hT : fx.T a = none) (hh : fx.H a = none) (hL : ¬ fx.L a)
    (hx : NX o' := by first | exact nx_lst | exact nx_ins | exact nx_dK | assumption) (hx0 : NX o := by first | exact nx_lst | exact nx_ins | exact nx_dK | assumption) : Rel Γ (fx.aside a o') S σ (upd H a o') F := by
  have tA : (fx.aside a o).T a = some o := upd_same
  have hF : F a = none := (R.tmp a o tA).2
  have hn : ∀ (i : Nat) (p : Ov) (b : Bool), S[i]? = some (.own p b) → σ[i]? ≠ some (some (.ref a)) := fun i p b e q => by
    obtain ⟨c, e1, e2, e3, e4, e5⟩ := R.own i p b e
    rw [q] at e1; cases e1
    rw [tA] at e4; cases e4
  have R1 := R.unaside hT
  have hFa : ∀ c x, F c = some x → c ≠ a := fun c x h q => by rw [q, hF] at h; cases h
  refine Rel.aside (o := o') ?_ upd_same hF hn hx.1
  exact {
    bg := R1.bg.write (R.tmp a o tA).1 hx0
    cb := R1.cb
    tnx := R1.tnx
    fnx := R1.fnx
    len := R1.len
    val := R1.val
    own := fun i p b e => by
      obtain ⟨c, e1, e2, e3, e4, e5⟩ := R1.own i p b e
      have ne : c ≠ a := fun q => hn i p b e (by rw [e1, q])
      exact ⟨c, e1, e2, e3.mono (Ext.refl F) fun u hu => by rw [upd_ne ne]; exact hu, e4, e5⟩
    inj := R1.inj
    sub := fun c u h => by rw [upd_ne (hFa c u h)]; exact R1.sub c u h
    sub0 := R1.sub0
    new := R1.new
    frm := fun c u h ht hw => by
      have ne : c ≠ a := fun q => by rw [q, hh] at h; cases h
      rw [upd_ne ne]; exact R1.frm c u h ht hw
    wth := fun c hc => by
      have ne : c ≠ a := fun q => hL (by rw [← q]; exact hc)
      obtain ⟨u, hu⟩ := R1.wth c hc
      exact ⟨u, by rw [upd_ne ne]; exact hu⟩
    tmp := fun c u h => by
      have ne : c ≠ a := fun q => by rw [q, hT] at h; cases h
      exact ⟨by rw [upd_ne ne]; exact (R1.tmp c u h).1, (R1.tmp c u h).2⟩ }
/-! ### a comprehension's own names -/
noncomputable def wipeS (S : Slots) : List Nat → Slots
  | [] => S
  | v :: vs => (wipeS S vs).set v .no
theorem Rel.wipe {S : Slots} {σ : L2.St} {H F : Hp} (R : Rel Γ fx S σ H F) : ∀ vs, Rel Γ fx (wipeS S vs) (L2.wipe σ vs) H F
  | [] => R
  | v :: vs => (Rel.wipe R vs).setNo
/-- behind it they are what they were -/
noncomputable def backS (S0 S : Slots) : List Nat → Slots
  | [] => S
  | v :: vs => (backS S0 S vs).set v (match S0[v]? with | some (.val d) => .val d | _ => .no)
theorem wipe_get {σ : L2.St} : ∀ {vs : List Nat} {i : Nat}, i ∉ vs → (L2.wipe σ vs)[i]? = σ[i]?
  | [], _, _ => rfl
  | v :: vs, i, h => by
    unfold L2.wipe
    rw [List.getElem?_set_ne fun q => h (by rw [q]; exact List.mem_cons_self)]
    exact wipe_get fun z => h (List.mem_cons_of_mem _ z)
theorem wipe_at {σ : L2.St} : ∀ {vs : List Nat} {i : Nat}, i ∈ vs → i < σ.length → (L2.wipe σ vs)[i]? = some none
  | v :: vs, i, h, hl => by
    unfold L2.wipe
    by_cases q : v = i
    · subst q; exact List.getElem?_set_self (by rw [wipe_length]; exact hl)
    · rw [List.getElem?_set_ne q]
      exact wipe_at ((List.mem_cons.mp h).resolve_left fun z => q z.symm) hl
theorem Agree.wipe {vs : List Nat} {σ σ2 : L2.St} (a : Agree vs (L2.wipe σ vs) σ2) : L2.wipe σ2 vs = L2.wipe σ vs := by
  apply List.ext_getElem?
  intro i
  have hl : σ2.length = σ.length := by rw [a.1, wipe_length]
  by_cases hi : i ∈ vs
  · by_cases hs : i < σ.length
    · rw [wipe_at hi hs, wipe_at hi (by rw [hl]; exact hs)]
    · rw [List.getElem?_eq_none (by rw [wipe_length]; omega), List.getElem?_eq_none (by rw [wipe_length]; omega)]
  · rw [wipe_get hi, a.2 i hi]
/-- set back: the slots' heaps as at the block's end, the block's own names as ahead -/
theorem Rel.back {S0 S : Slots} {σ : L2.St} {H0 H F0 F : Hp} (R0 : Rel Γ fx S0 σ H0 F0) (e : Ext F0 F) : ∀ vs, Rel Γ fx S (L2.wipe σ vs) H F → Rel Γ fx (backS S0 S vs) σ H F := by
  have key : ∀ (vs : List Nat) (τ : L2.St), (∀ i, i ∉ vs → τ[i]? = σ[i]?) → τ.length = σ.length → Rel Γ fx S τ H F → ∀ us, (∀ i ∈ us, i ∈ vs) → ∃ τ', Rel Γ fx (backS S0 S us) τ' H F ∧ (∀ i, i ∉ vs ∨ i ∈ us → τ'[i]? = σ[i]?) ∧ τ'.length = σ.length := by
    intro vs τ h1 hlen R us
    induction us with
    | nil => exact fun _ => ⟨τ, R, fun i hi => h1 i (hi.resolve_right (by simp)), hlen⟩
    | cons u us ih =>
      intro hu
      obtain ⟨τ', R', h2, h3⟩ := ih fun i hi => hu i (List.mem_cons_of_mem _ hi)
      have hb : ∀ x, (τ'.set u x).length = σ.length := fun x => by rw [List.length_set]; exact h3
      have ag : ∀ x, σ[u]? = some x → ∀ i, i ∉ vs ∨ i ∈ u :: us → (τ'.set u x)[i]? = σ[i]? := fun x hx i hi => by
        by_cases q : u = i
        · subst q
          rw [List.getElem?_set_self (by rw [h3]; exact (List.getElem?_eq_some_iff.mp hx).1), hx]
        · rw [List.getElem?_set_ne q]
          exact h2 i (hi.imp id fun z => (List.mem_cons.mp z).resolve_left fun w => q w.symm)
      unfold backS
      split
      · rename_i d e0
        obtain ⟨v, e1, r⟩ := R0.val u d e0
        exact ⟨_, R'.setVal (r.mono e), ag _ e1, hb _⟩
      · cases e1 : σ[u]? with
        | some x => exact ⟨_, R'.setNo (x := x), ag _ e1, hb _⟩
        | none =>
          have hl : σ.length ≤ u := List.getElem?_eq_none_iff.mp e1
          refine ⟨_, R'.setNo (x := none), fun i hi => ?_, hb _⟩
          rw [List.set_eq_of_length_le (by rw [h3]; exact hl)]
          by_cases q : u = i
          · subst q; rw [e1]; exact List.getElem?_eq_none (by rw [h3]; exact hl)
          · exact h2 i (hi.imp id fun z => (List.mem_cons.mp z).resolve_left fun w => q w.symm)
  intro vs R
  obtain ⟨τ', R', h2, h3⟩ := key vs _ (fun i hi => wipe_get hi) (wipe_length _ _) R vs fun i hi => hi
  have : τ' = σ := by
    apply List.ext_getElem?
    intro i
    exact h2 i (by by_cases hi : i ∈ vs; exact .inr hi; exact .inl hi)
  rw [this] at R'
  exact R'
/-! ### list comprehensions -/
/-- it comes to a value, and K holds -/
noncomputable def Good {α : Type} (r : R (α × Slots)) (K : α → Slots → Prop) : Prop := match r with
  | .ok (a, S') => K a S'
  | _ => False
theorem Good.bind {α β : Type} {g : M α} {f : α → M β} {S : Slots} {K : β → Slots → Prop} (h : Good (M.bind g f S) K) : Good (g S) fun a S' => Good (f a S') K := by
  unfold M.bind at h
  cases e : g S with
  | ok p => obtain ⟨a, S'⟩ := p; rw [e] at h; exact h
  | exc x S' => rw [e] at h; exact h
  | bad => rw [e] at h; exact h
theorem Good.post {α : Type} {r : R (α × Slots)} {K : α → Slots → Prop} {σ : L2.St} {F : Hp} {fx : Fx} (h : Good r K) : Post Γ fx E0 σ F r fun a S' H' F' => K a S' ∧ Ext F F' ∧ Rel Γ fx S' σ H' F' := by
  cases r with
  | ok p => obtain ⟨a, S'⟩ := p; exact fun H' F' e R => ⟨h, e, R⟩
  | exc x S' => exact h.elim
  | bad => exact h
/-- any frame -/
noncomputable def tVx (Γ : Gam) (g : M D) : TE := fun σ H Q => ∃ fx, tV Γ fx E0 g σ H Q
noncomputable def tTx (Γ : Gam) (g : M Bool) : TT := fun σ H Q => ∃ fx, tT Γ fx E0 g σ H Q
noncomputable def tTGx (Γ : Gam) (vs : List Nat) (b : MT) : TG := fun v σ H Q => ∃ fx, tTG Γ fx vs b v σ H Q
theorem PE.ex {e : Expr} {g : M D} (h : ∀ fx, GV Γ fx E0 X e g) : PE X e (tVx Γ g) := ⟨fun pins s σ H Q I ⟨fx, q⟩ => (h fx).run pins s σ H Q I q⟩
theorem PG.ex {e : Expr} {vs : List Nat} {b : MT} (h : ∀ fx, GG Γ fx X e vs b) : PG X e (tTGx Γ vs b) := ⟨fun pins s σ H v u Q I r ⟨fx, q⟩ => (h fx).run pins s σ H v u Q I r q⟩
noncomputable def GTs (Γ : Gam) (X : Cx) (ifs : List Expr) (g : M Bool) : Prop := PTs X ifs (tTx Γ g)
theorem gts_nil : GTs Γ X [] (M.pure true) := ⟨fun pins s σ H Q I ⟨fx, S, F, Rl, q⟩ => pts_nil.run pins s σ H Q I (Post.pure q Rl)⟩
noncomputable def wipeM (vs : List Nat) : M Unit := fun S => .ok ((), wipeS S vs)
noncomputable def lcLoop (vs : List Nat) (b : MT) (gt : M Bool) (ge : M D) : List D → List D → M (List D)
  | [], acc => M.pure acc
  | d :: r, acc => M.bind (wipeM vs) fun _ => M.bind (b d) fun _ => M.bind gt fun t => if t then M.bind ge fun y => if acc.length < sizeLine then lcLoop vs b gt ge r (acc ++ [y]) else M.bad else lcLoop vs b gt ge r acc
theorem lcLoop_cons {vs : List Nat} {b : MT} {gt : M Bool} {ge : M D} {d : D} {r acc : List D} : lcLoop vs b gt ge (d :: r) acc = M.bind (M.bind (M.bind (wipeM vs) fun _ => b d) fun _ => gt) fun t => if t then M.bind ge fun y => if acc.length < sizeLine then lcLoop vs b gt ge r (acc ++ [y]) else M.bad else lcLoop vs b gt ge r acc := by
  funext S
  show M.bind (wipeM vs) (fun _ => M.bind (b d) fun _ => M.bind gt _) S = _
  unfold M.bind wipeM
  simp only []
  cases b d (wipeS S vs) with
  | ok p => rfl
  | exc x S' => rfl
  | bad => rfl
noncomputable def gLc (vs : List Nat) (gi : M (List D)) (b : MT) (gt : M Bool) (ge : M D) : M Pv := M.bind gi fun ds S1 => match lcLoop vs b gt ge ds [] S1 with
  | .ok (acc, S2) => .ok (.fr (.lst acc), backS S1 (wipeS S2 vs) vs)
  | _ => .bad
theorem tLc_of {vs : List Nat} {gi : M (List D)} {b : MT} {gt : M Bool} {ge : M D} (hx : NoX b) {σ : L2.St} {H : Hp} {Q : VK} (h : tG Γ fx E (gLc vs gi b gt ge) σ H Q) : tLc (tI Γ fx E gi) (tTGx Γ vs b) (tTx Γ gt) (tVx Γ ge) vs σ H Q := by
  obtain ⟨S, F, Rl, q⟩ := h
  refine ⟨S, F, Rl, Post.imp (Post.bind q) fun ds S1 H1 F1 e1 R1 q1 J hJ Da hD => ?_⟩
  obtain ⟨f1, f2, f3, f4⟩ := R1.fresh hD
  have key : ∀ {r : R (List D × Slots)} , Post Γ fx E σ F1 (match r with | .ok (acc, S2) => R.ok (Pv.fr (.lst acc), backS S1 (wipeS S2 vs) vs) | _ => .bad) (fun pv S' H' F' => ∀ v, PvOk Γ fx S' σ H' F' pv v → Q v H') →
      Good r fun acc S2 => ∀ H' F', Ext F1 F' → Rel Γ fx (backS S1 (wipeS S2 vs) vs) σ H' F' → ∀ v, PvOk Γ fx (backS S1 (wipeS S2 vs) vs) σ H' F' (.fr (.lst acc)) v → Q v H' := fun {r} h => by
    cases r with
    | ok p => obtain ⟨a, S'⟩ := p; exact h
    | exc x S' => exact h.elim
    | bad => exact h.elim
  have g0 := key q1
  refine ⟨fun i m H => m = ds.length - i ∧ i ≤ ds.length ∧ ∃ S F acc accV, Ext F1 F ∧ (∃ τ, L2.wipe τ vs = L2.wipe σ vs ∧ Rel Γ (fx.aside Da (.lst accV)) S τ H F) ∧ Reps Γ F acc accV ∧
    Good (lcLoop vs b gt ge (ds.drop i) acc S) fun acc S2 => ∀ H' F', Ext F1 F' → Rel Γ fx (backS S1 (wipeS S2 vs) vs) σ H' F' → ∀ v, PvOk Γ fx (backS S1 (wipeS S2 vs) vs) σ H' F' (.fr (.lst acc)) v → Q v H', ⟨ds.length, rfl, Nat.zero_le _, S1, F1, [], [], Ext.refl _, ⟨σ, rfl, (R1.lay hD).aside upd_same f1 fun i o b e q => R1.ownNe e q hD rfl⟩, rfl, g0⟩, ?_⟩
  rintro i m H2 ⟨rfl, hi, S2, F2, acc, accV, e2, ⟨τ, ht, R2⟩, ra, q2⟩
  obtain ⟨y1, y2, y3⟩ := hJ i H2 F2 e2 R2.sub
  have tD : ∀ {S' τ' H' F'}, Rel Γ (fx.aside Da (.lst accV)) S' τ' H' F' → H' Da = some (.lst accV) ∧ F' Da = none := fun R => R.tmp Da _ upd_same
  by_cases hl : i < ds.length
  · refine .inr ⟨y1 hl, fun H' => i + 1 ≤ ds.length ∧ ∃ S F acc accV, Ext F1 F ∧ (∃ τ, L2.wipe τ vs = L2.wipe σ vs ∧ Rel Γ (fx.aside Da (.lst accV)) S τ H' F) ∧ Reps Γ F acc accV ∧
      Good (lcLoop vs b gt ge (ds.drop (i + 1)) acc S) fun acc S2 => ∀ H' F', Ext F1 F' → Rel Γ fx (backS S1 (wipeS S2 vs) vs) σ H' F' → ∀ v, PvOk Γ fx (backS S1 (wipeS S2 vs) vs) σ H' F' (.fr (.lst acc)) v → Q v H', fun H' h => ⟨_, by omega, rfl, h⟩, fun x H3 hy => ?_⟩
    obtain ⟨F3, e3, R3, r3⟩ := R2.yield (y3 x H3 ds[i] hy (List.getElem?_eq_getElem hl))
    rw [List.drop_eq_getElem_cons hl] at q2
    rw [lcLoop_cons] at q2
    have q4 : Good (b ds[i] (wipeS S2 vs)) _ := Good.bind (Good.bind q2)
    have R4 := R3.wipe vs
    rw [ht] at R4
    refine ⟨fx.aside Da (.lst accV), wipeS S2 vs, F3, ds[i], R4, r3, ?_⟩
    have ee : Ext F1 F3 := e2.trans e3
    have ra3 := ra.mono e3
    cases e : b ds[i] (wipeS S2 vs) with
    | bad => rw [e] at q4; exact q4.elim
    | exc x' S' => rw [e] at q4; exact q4.elim
    | ok p =>
      obtain ⟨uu, S5⟩ := p
      rw [e] at q4
      refine fun σ5 H5 F5 e5 R5 ag => ⟨ag.wipe, fx.aside Da (.lst accV), S5, F5, R5, Post.imp (Good.post q4) fun t S6 H6 F6 e6 R6 ⟨q6, _, _⟩ => ?_⟩
      have e16 : Ext F1 F6 := ee.trans (e5.trans e6)
      have ra6 := ra3.mono (e5.trans e6)
      cases t with
      | false => exact ⟨hl, S6, F6, acc, accV, e16, ⟨σ5, ag.wipe, R6⟩, ra6, q6⟩
      | true =>
        refine ⟨fx.aside Da (.lst accV), S6, F6, R6, Post.imp (Good.post (Good.bind q6)) fun y S7 H7 F7 e7 R7 ⟨q7, _, _⟩ v7 r7 => ?_⟩
        by_cases hc : acc.length < sizeLine
        · rw [if_pos hc] at q7
          have ra7 := ra6.mono e7
          exact ⟨accV, (tD R7).1, by rw [← ra7.len]; exact hc, hl, S7, F7, acc ++ [y], accV ++ [v7], e16.trans e7, ⟨σ5, ag.wipe, R7.turnAside f4 f2 f3⟩, ra7.append (Reps.cons r7 Reps.nil), q7⟩
        · rw [if_neg hc] at q7; exact q7.elim
  · refine .inl ⟨y2 (by omega), ?_⟩
    rw [List.drop_eq_nil_of_le (by omega)] at q2
    have q3 : ∀ H' F', Ext F1 F' → Rel Γ fx (backS S1 (wipeS S2 vs) vs) σ H' F' → ∀ v, PvOk Γ fx (backS S1 (wipeS S2 vs) vs) σ H' F' (.fr (.lst acc)) v → Q v H' := q2
    have R3 := (R2.unaside f4).wipe vs
    rw [ht] at R3
    refine q3 H2 F2 e2 (R1.back e2 vs R3) (.ref Da) ⟨Da, rfl, (tD R2).2, ⟨accV, (tD R2).1, ra⟩, f4, f2, fun j o b e w => ?_⟩
    have R4 := R2.wipe vs
    rw [ht] at R4
    have tA : (fx.aside Da (.lst accV)).T Da = some (.lst accV) := upd_same
    obtain ⟨F0', hF0⟩ : ∃ G : Hp, Rel Γ fx (backS S1 (wipeS S2 vs) vs) σ H2 G := ⟨F2, R1.back e2 vs R3⟩
    have lem : ∀ us, (∀ k ∈ us, k ∈ vs) → ∀ k o b, (backS S1 (wipeS S2 vs) us)[k]? = some (.own o b) → k ∉ us ∧ (wipeS S2 vs)[k]? = some (.own o b) := fun us => by
      induction us with
      | nil => exact fun _ k o b e => ⟨by simp, e⟩
      | cons u us ih =>
        intro hu k o b e
        unfold backS at e
        by_cases q : u = k
        · exfalso
          subst q
          rw [List.getElem?_set] at e
          simp only [if_pos] at e
          split at e
          · split at e <;> cases e
          · cases e
        · rw [List.getElem?_set_ne q] at e
          obtain ⟨h1, h2⟩ := ih (fun k hk => hu k (List.mem_cons_of_mem _ hk)) k o b e
          exact ⟨by simp only [List.mem_cons, not_or]; exact ⟨fun z => q z.symm, h1⟩, h2⟩
    obtain ⟨h1, h2⟩ := lem vs (fun k hk => hk) j o b e
    obtain ⟨c, e5, _, _, e6, _⟩ := R4.own j o b h2
    rw [wipe_get h1, w] at e5
    cases e5
    rw [tA] at e6
    cases e6
theorem ge_lc {elt tg iter : Expr} {ifs : List Expr} {scope : Scope} {own : List (Str × Nat)} {gi : M (List D)} {b : MT} {gt : M Bool} {ge : M D} (hc : X.calm = true) (hN : X.N.Nodup) (hi : GI Γ fx E X tg iter gi) (ok : BlkOk X.N X.env.scope scope own)
    (hg : ∀ (fx : Fx) (s : Shared) (H : Hp) (C : Addr) (cl : List (Str × Addr)) (fp : List Addr), GG Γ fx (X.blk s H scope (compEnvC scope cl C X.env) fp) tg (own.map (·.2)) b) (hx : NoX b)
    (ht : ∀ (s : Shared) (H : Hp) (C : Addr) (cl : List (Str × Addr)) (fp : List Addr), GTs Γ (X.blk s H scope (compEnvC scope cl C X.env) fp) ifs gt)
    (he : ∀ (fx : Fx) (s : Shared) (H : Hp) (C : Addr) (cl : List (Str × Addr)) (fp : List Addr), GV Γ fx E0 (X.blk s H scope (compEnvC scope cl C X.env) fp) elt ge) (hs : ∀ x, foldedSetIterable iter X.env x = pure x := by intro _; rfl) :
    GE Γ fx E X (.ListComp elt [⟨tg, iter, ifs, 0⟩] scope pos) (gLc (own.map (·.2)) gi b gt ge) :=
  PE.weak (pe_lc hc hN hi ok (fun s H C cl fp => PG.ex fun fx => hg fx s H C cl fp) ht (fun s H C cl fp => PE.ex fun fx => he fx s H C cl fp) hs) fun σ H Q h => tLc_of hx h
/-! ### calls of defs -/
inductive AK where
  | v (d : D)
  | s (i : Nat)
noncomputable def AKsOk (Γ : Gam) (σ : L2.St) (F : Hp) : List AK → List V → Prop
  | [], vs => vs = []
  | .v d :: r, vs => ∃ v u, vs = v :: u ∧ Rep Γ F d v ∧ AKsOk Γ σ F r u
  | .s i :: r, vs => ∃ v u, vs = v :: u ∧ σ[i]? = some (some v) ∧ AKsOk Γ σ F r u
noncomputable def tAK (Γ : Gam) (fx : Fx) (E : WX) (g : M (List AK)) : TA := fun σ H Q => ∃ S F, Rel Γ fx S σ H F ∧ Post Γ fx E σ F (g S) fun aks S' H' F' => ∀ vs, AKsOk Γ σ F' aks vs → Q vs H'
noncomputable def GAK (Γ : Gam) (fx : Fx) (E : WX) (X : Cx) (es : List Expr) (g : M (List AK)) : Prop := PA X es (tAK Γ fx E g)
noncomputable def kNil : M (List AK) := M.pure []
noncomputable def kV (ga : M D) (gr : M (List AK)) : M (List AK) := M.bind ga fun a => M.bind gr fun r => M.pure (AK.v a :: r)
noncomputable def kS (i : Nat) (gr : M (List AK)) : M (List AK) := fun S => (match S[i]? with
      | some (.own _ _) => M.bind gr fun r => M.pure (AK.s i :: r)
      | some (.val _) => M.bind gr fun r => M.pure (AK.s i :: r)
      | some (.cb _) => M.bind gr fun r => M.pure (AK.s i :: r)
      | _ => M.bad) S
theorem gk_nil : GAK Γ fx E X [] kNil := PA.weak pa_nil fun σ H Q ⟨S, F, Rl, q⟩ => Post.pure q Rl [] rfl
theorem AKsOk.mono {σ : L2.St} {F F' : Hp} (e : Ext F F') : ∀ {aks : List AK} {vs : List V}, AKsOk Γ σ F aks vs → AKsOk Γ σ F' aks vs
  | [], _, h => h
  | .v d :: r, _, ⟨v, u, e1, h, t⟩ => ⟨v, u, e1, h.mono e, AKsOk.mono e t⟩
  | .s i :: r, _, ⟨v, u, e1, h, t⟩ => ⟨v, u, e1, h, AKsOk.mono e t⟩
theorem gk_v {e : Expr} {es : List Expr} {ga : M D} {gr : M (List AK)} (ha : GV Γ fx E X e ga) (hr : GAK Γ fx E X es gr) (hs : starEach (e :: es) X.env = (false, eval e X.env) :: starEach es X.env := by rfl) : GAK Γ fx E X (e :: es) (kV ga gr) :=
  PA.weak (pa_cons ha hr hs) fun σ H Q ⟨S, F, Rl, q⟩ => ⟨S, F, Rl, Post.imp (Post.bind q) fun d S1 H1 F1 e1 R1 q1 v r1 => ⟨S1, F1, R1, Post.imp (Post.bind q1) fun ds S2 H2 F2 e2 R2 q2 vs r2 =>
    Post.pure q2 R2 _ ⟨v, vs, rfl, r1.mono e2, r2⟩⟩⟩
theorem gk_s (i : Nat) {x : Str} {p : Pos} {es : List Expr} {gr : M (List AK)} (hr : GAK Γ fx E X es gr) (hN : X.N[i]? = some x := by rfl) (hv : Vis X.env.scope x := by first | exact Or.inl rfl | exact Or.inr (Or.inl rfl) | exact Or.inr (Or.inr rfl)) (hd : (x == ("__debug__" : Str)) = false := by decide)
    (hcd : (x == ("__classdict__" : Str)) = false := by decide) (hs : starEach (.Name x p :: es) X.env = (false, eval (.Name x p) X.env) :: starEach es X.env := by rfl) : GAK Γ fx E X (.Name x p :: es) (kS i gr) :=
  PA.weak (pa_cons (pe_var hN hv hd hcd) hr hs) fun σ H Q ⟨S, F, Rl, q⟩ => by
    unfold kS at q
    have q' : Post Γ fx E σ F ((match S[i]? with
      | some (.own _ _) => M.bind gr fun r => M.pure (AK.s i :: r)
      | some (.val _) => M.bind gr fun r => M.pure (AK.s i :: r)
      | some (.cb _) => M.bind gr fun r => M.pure (AK.s i :: r)
      | _ => M.bad) S) fun aks S' H' F' => ∀ vs, AKsOk Γ σ F' aks vs → Q vs H' := q
    have hv : ∀ v, σ[i]? = some (some v) → Post Γ fx E σ F (M.bind gr (fun r => M.pure (AK.s i :: r)) S) (fun aks S' H' F' => ∀ vs, AKsOk Γ σ F' aks vs → Q vs H') → tCons (tVar i) (tAK Γ fx E gr) σ H Q := fun v e q =>
      ⟨v, e, S, F, Rl, Post.imp (Post.bind q) fun ds S2 H2 F2 e2 R2 q2 vs r2 => Post.pure q2 R2 _ ⟨v, vs, rfl, e, r2⟩⟩
    cases e : S[i]? with
    | none => rw [e] at q'; exact q'.elim
    | some sv =>
      rw [e] at q'
      cases sv with
      | no => exact q'.elim
      | val d => obtain ⟨v, e1, _⟩ := Rl.val i d e; exact hv v e1 q'
      | own o b => obtain ⟨a, e1, _⟩ := Rl.own i o b e; exact hv _ e1 q'
      | cb f => obtain ⟨a, e1, _⟩ := Rl.cb i f e; exact hv _ e1 q'
/-- the object of a slot, or its data -/
noncomputable def asOf (S : Slots) : AK → Option Rv
  | .v d => some (.val d)
  | .s i => match S[i]? with
    | some (.own o _) => some (.own o)
    | some (.val d) => some (.val d)
    | some (.cb f) => some (.cb f)
    | _ => none
noncomputable def asOfs (S : Slots) : List AK → Option (List Rv)
  | [] => some []
  | k :: r => match asOf S k, asOfs S r with
    | some a, some as => some (a :: as)
    | _, _ => none
noncomputable def putBack (S : Slots) : List AK → List Rv → Slots
  | .s i :: r, .own o :: as => match S[i]? with
    | some (.own _ b) => (putBack S r as).set i (.own o b)
    | _ => putBack S r as
  | _ :: r, _ :: as => putBack S r as
  | _, _ => S
noncomputable def slotsIn : List AK → List Nat
  | [] => []
  | .v _ :: r => slotsIn r
  | .s i :: r => i :: slotsIn r
noncomputable def nodupB : List Nat → Bool
  | [] => true
  | i :: r => !r.contains i && nodupB r
theorem nodupB_of : ∀ {l : List Nat}, nodupB l = true → l.Nodup
  | [], _ => List.nodup_nil
  | i :: r, h => by
    unfold nodupB at h
    rw [Bool.and_eq_true] at h
    refine List.nodup_cons.mpr ⟨fun hm => ?_, nodupB_of h.2⟩
    have := h.1
    rw [List.contains_iff_mem.mpr hm] at this
    cases this
noncomputable def rvPv : Rv → Pv
  | .val d => .dat d
  | .own o => .fr o
  | .cb _ => .dat .non
noncomputable def callK (f : Fn) (dds : List D) (aks : List AK) : M Pv := fun S => match asOfs S aks with
  | some as => if nodupB (slotsIn aks) then match f (as ++ dds.map .val) with
      | .ok r as' => .ok (rvPv r, putBack S aks as')
      | .exc x as' => .exc x (putBack S aks as')
      | .bad => .bad
    else .bad
  | none => .bad
/-- behind a call -/
theorem Rel.after {S S' : Slots} {σ : L2.St} {H F H' F' : Hp} {as as' : List Rv} {vs : List V} (R : Rel Γ fx S σ H F) (A : After Γ as vs H F as' H' F') (hl : S'.length = S.length)
    (hW : ∀ k a, lentTo as vs k a → ∃ (j : Nat) (o : Ov) (b : Bool), S[j]? = some (.own o b) ∧ σ[j]? = some (some (.ref a)))
    (hS : ∀ (j : Nat) (sv : Sv), S'[j]? = some sv → (S[j]? = some sv ∧ ∀ o b k a, sv = .own o b → lentTo as vs k a → σ[j]? ≠ some (some (.ref a))) ∨
      ∃ k a o o0 b, sv = .own o b ∧ S[j]? = some (.own o0 b) ∧ σ[j]? = some (some (.ref a)) ∧ lentTo as vs k a ∧ as'[k]? = some (.own o)) : Rel Γ fx S' σ H' F' where
  bg := {
    clo := fun a o e => by
      obtain ⟨⟨φ, h0, h1⟩, h2⟩ := R.bg.clo a o e
      refine ⟨⟨φ, h0, h1⟩, A.frm a o h2 (fun ps z => by rw [h1] at z; cases z) fun k hk => ?_⟩
      obtain ⟨j, o1, b, e1, e2⟩ := hW k a hk
      obtain ⟨a', h3, _, h4, _⟩ := R.own j o1 b e1
      rw [e2] at h3; cases h3
      obtain ⟨u, hu, nu⟩ := h4.nx
      rw [h2] at hu; cases hu
      exact nu.2 φ h0 h1
    tab := A.tab
    frt := fun a ps e => by
      obtain ⟨m, h1⟩ := R.bg.frt a ps e
      obtain ⟨m2, h2⟩ := A.frt a _ h1
      exact ⟨m ++ m2, by rw [h2, Array.append_assoc]⟩ }
  cb := fun j f e => by
    rcases hS j _ e with ⟨e1, _⟩ | ⟨k, a, o, o0, b, e1, _⟩
    · exact R.cb j f e1
    · cases e1
  tnx := R.tnx
  fnx := A.fnx
  len := hl.trans R.len
  val := fun j d e => by
    rcases hS j _ e with ⟨e1, _⟩ | ⟨k, a, o, o0, b, e1, _⟩
    · obtain ⟨v, h1, h2⟩ := R.val j d e1
      exact ⟨v, h1, h2.mono A.ext⟩
    · cases e1
  own := fun j o b e => by
    rcases hS j _ e with ⟨e1, h⟩ | ⟨k, a, o1, o0, b1, e1, e2, e3, e4, e5⟩
    · obtain ⟨a, h1, h2, h3, h4, h5⟩ := R.own j o b e1
      obtain ⟨u, hu, nu⟩ := h3.nx
      refine ⟨a, h1, ?_, h3.mono A.ext fun u' hu' => A.frm a u' hu' (by rw [hu] at hu'; cases hu'; exact nu.1) fun k hk => h o b k a rfl hk h1, h4, h5⟩
      cases q : F' a with
      | none => rfl
      | some w =>
        rcases A.new a w q with z | z
        · rw [h2] at z; cases z
        · rw [hu] at z; cases z
    · cases e1
      obtain ⟨a', h1, h2, h3, h4, h5⟩ := R.own j o0 b e2
      rw [e3] at h1; cases h1
      obtain ⟨n1, o', n2, n3⟩ := A.own k a e4
      rw [e5] at n2; cases n2
      exact ⟨a, e3, n1, n3, h4, h5⟩
  inj := fun i j o o' b b' a e1 e2 e3 e4 => by
    have f : ∀ (j : Nat) o b, S'[j]? = some (.own o b) → ∃ o b, S[j]? = some (.own o b) := fun j o b e => by
      rcases hS j _ e with ⟨e1, _⟩ | ⟨_, _, _, o0, b0, _, e2, _⟩
      · exact ⟨_, _, e1⟩
      · exact ⟨_, _, e2⟩
    obtain ⟨_, _, g1⟩ := f i o b e1
    obtain ⟨_, _, g2⟩ := f j o' b' e2
    exact R.inj i j _ _ _ _ a g1 g2 e3 e4
  sub := A.sub
  sub0 := R.sub0.trans A.ext
  new := fun a o e => by
    rcases A.new a o e with z | z
    · exact R.new a o z
    · by_cases q : fx.L a
      · exact .inr (.inr q)
      · refine .inr (.inl ?_)
        cases h : fx.H a with
        | none => rfl
        | some w => obtain ⟨_, this⟩ := R.held h q; rw [z] at this; cases this
  frm := fun a o e ht hn => A.frm a o (R.frm a o e ht hn) ht fun k hk => by
    obtain ⟨j, o1, b, e1, e2⟩ := hW k a hk
    obtain ⟨a', h1, _, _, _, h5⟩ := R.own j o1 b e1
    rw [e2] at h1; cases h1
    rcases h5.or with z | z
    · rw [e] at z; cases z
    · exact hn z
  wth := fun a ha => by
    by_cases hk : ∃ k, lentTo as vs k a
    · obtain ⟨k, hk⟩ := hk
      obtain ⟨_, o, _, n3⟩ := A.own k a hk
      exact n3.there
    · obtain ⟨o, e⟩ := R.wth a ha
      by_cases ht : ∃ ps, o = .tbl ps
      · obtain ⟨ps, rfl⟩ := ht
        obtain ⟨m, h⟩ := A.frt a ps e
        exact ⟨_, h⟩
      · exact ⟨o, A.frm a o e (fun ps z => ht ⟨ps, z⟩) fun k h => hk ⟨k, h⟩⟩
  tmp := fun a o e => by
    obtain ⟨h1, h2⟩ := R.tmp a o e
    refine ⟨A.frm a o h1 (R.tnx a o e) fun k hk => ?_, ?_⟩
    · obtain ⟨j, o1, b, e1, e2⟩ := hW k a hk
      obtain ⟨a', h3, _, _, h4, _⟩ := R.own j o1 b e1
      rw [e2] at h3; cases h3
      rw [e] at h4; cases h4
    · cases q : F' a with
      | none => rfl
      | some w =>
        rcases A.new a w q with z | z
        · rw [h2] at z; cases z
        · rw [h1] at z; cases z
theorem asOfs_get {S : Slots} : ∀ {aks : List AK} {as : List Rv}, asOfs S aks = some as → as.length = aks.length ∧ ∀ (k : Nat) (r : Rv), as[k]? = some r → ∃ ak, aks[k]? = some ak ∧ asOf S ak = some r
  | [], as, h => by cases h; exact ⟨rfl, fun k r e => by simp at e⟩
  | a :: r, as, h => by
    unfold asOfs at h
    split at h
    · rename_i x xs e1 e2
      cases h
      obtain ⟨h1, h2⟩ := asOfs_get e2
      refine ⟨by simp [h1], fun k y e => ?_⟩
      cases k with
      | zero => cases e; exact ⟨a, rfl, e1⟩
      | succ k => exact h2 k y e
    · cases h
theorem AKsOk.get {σ : L2.St} {F : Hp} : ∀ {aks : List AK} {vs : List V}, AKsOk Γ σ F aks vs → aks.length = vs.length ∧ ∀ (k : Nat) (a : AK), aks[k]? = some a → ∃ v, vs[k]? = some v ∧ match a with
    | .v d => Rep Γ F d v
    | .s i => σ[i]? = some (some v)
  | [], _, h => by cases h; exact ⟨rfl, fun k r e => by simp at e⟩
  | .v d :: r, _, ⟨v, u, rfl, h, t⟩ => by
    obtain ⟨h1, h2⟩ := AKsOk.get t
    refine ⟨by simp [h1], fun k y e => ?_⟩
    cases k with
    | zero => cases e; exact ⟨v, rfl, h⟩
    | succ k => exact h2 k y e
  | .s i :: r, _, ⟨v, u, rfl, h, t⟩ => by
    obtain ⟨h1, h2⟩ := AKsOk.get t
    refine ⟨by simp [h1], fun k y e => ?_⟩
    cases k with
    | zero => cases e; exact ⟨v, rfl, h⟩
    | succ k => exact h2 k y e
theorem putBack_len {S : Slots} : ∀ {aks : List AK} {as : List Rv}, (putBack S aks as).length = S.length
  | [], as => by cases as <;> rfl
  | .v d :: r, [] => rfl
  | .s i :: r, [] => rfl
  | .v d :: r, a :: as => by unfold putBack; exact putBack_len
  | .s i :: r, .val d :: as => by unfold putBack; exact putBack_len
  | .s i :: r, .cb d :: as => by unfold putBack; exact putBack_len
  | .s i :: r, .own o :: as => by
    unfold putBack
    split
    · rw [List.length_set]; exact putBack_len
    · exact putBack_len
theorem putBack_get {S : Slots} : ∀ {aks : List AK} {as : List Rv} {j : Nat} {sv : Sv}, (putBack S aks as)[j]? = some sv → (S[j]? = some sv ∧ ∀ (n : Nat) (o : Ov), aks[n]? = some (.s j) → as[n]? = some (.own o) → ∀ o0 b, S[j]? ≠ some (.own o0 b)) ∨
    ∃ (n : Nat) (o o0 : Ov) (b : Bool), sv = .own o b ∧ S[j]? = some (.own o0 b) ∧ aks[n]? = some (.s j) ∧ as[n]? = some (.own o)
  | [], as, j, sv, h => by
    have h' : S[j]? = some sv := by cases as <;> exact h
    exact .inl ⟨h', fun n o e => by simp at e⟩
  | a :: r, [], j, sv, h => by
    have h' : S[j]? = some sv := by cases a <;> exact h
    exact .inl ⟨h', fun n o _ e => by simp at e⟩
  | a :: r, x :: as, j, sv, h => by
    have go : (putBack S r as)[j]? = some sv → (∀ o, a = .s j → x = .own o → ∀ o0 b, S[j]? ≠ some (.own o0 b)) → (S[j]? = some sv ∧ ∀ (n : Nat) (o : Ov), (a :: r)[n]? = some (.s j) → (x :: as)[n]? = some (.own o) → ∀ o0 b, S[j]? ≠ some (.own o0 b)) ∨
        ∃ (n : Nat) (o o0 : Ov) (b : Bool), sv = .own o b ∧ S[j]? = some (.own o0 b) ∧ (a :: r)[n]? = some (.s j) ∧ (x :: as)[n]? = some (.own o) := fun h1 h0 => by
      rcases putBack_get h1 with ⟨e1, h2⟩ | ⟨n, o, o0, b, e1, e2, e3, e4⟩
      · refine .inl ⟨e1, fun n o q1 q2 => ?_⟩
        cases n with
        | zero => cases q1; cases q2; exact h0 o rfl rfl
        | succ n => exact h2 n o q1 q2
      · exact .inr ⟨n + 1, o, o0, b, e1, e2, e3, e4⟩
    cases a with
    | v d =>
      have h' : (putBack S r as)[j]? = some sv := by cases x <;> exact h
      exact go h' fun o q => by cases q
    | s i =>
      cases x with
      | val d => exact go h fun o _ q => by cases q
      | cb d => exact go h fun o _ q => by cases q
      | own o =>
        unfold putBack at h
        split at h
        · rename_i o1 b1 e1
          by_cases q : i = j
          · subst q
            have hl : i < (putBack S r as).length := by rw [putBack_len]; exact (List.getElem?_eq_some_iff.mp e1).1
            rw [List.getElem?_set_self hl] at h
            cases h
            exact .inr ⟨0, o, o1, b1, rfl, e1, rfl, rfl⟩
          · rw [List.getElem?_set_ne q] at h
            exact go h fun o' z => by cases z; exact absurd rfl q
        · rename_i hne
          exact go h fun o' z _ o0 b w => by cases z; exact hne o0 b w
theorem asOf_own {S : Slots} {ak : AK} {o : Ov} (h : asOf S ak = some (.own o)) : ∃ i b, ak = .s i ∧ S[i]? = some (.own o b) := by
  cases ak with
  | v d => cases h
  | s i =>
    simp only [asOf] at h
    split at h
    · rename_i o1 b1 e; cases h; exact ⟨i, b1, rfl, e⟩
    · cases h
    · cases h
    · cases h
theorem asOf_cb {S : Slots} {ak : AK} {f : CF} (h : asOf S ak = some (.cb f)) : ∃ i, ak = .s i ∧ S[i]? = some (.cb f) := by
  cases ak with
  | v d => cases h
  | s i =>
    simp only [asOf] at h
    split at h
    · cases h
    · cases h
    · rename_i f' e; cases h; exact ⟨i, rfl, e⟩
    · cases h
theorem Bg.now {C H0 H : Hp} (b : Bg Γ C H0 H) : Bg Γ C H H := ⟨b.clo, b.tab, fun a ps e => ⟨#[], by rw [e]; simp⟩⟩
theorem call_args {S : Slots} {σ : L2.St} {H F : Hp} {aks : List AK} {as0 : List Rv} {vs0 dvs : List V} {dds : List D} (R : Rel Γ fx S σ H F) (ha : asOfs S aks = some as0) (hk : AKsOk Γ σ F aks vs0) (hd : Reps Γ F dds dvs) (hn : nodupB (slotsIn aks) = true) :
    Args Γ (as0 ++ dds.map .val) (vs0 ++ dvs) H F ∧ ∀ k a, lentTo (as0 ++ dds.map .val) (vs0 ++ dvs) k a → ∃ (j : Nat) (o : Ov) (b : Bool), aks[k]? = some (.s j) ∧ S[j]? = some (.own o b) ∧ σ[j]? = some (some (.ref a)) := by
  obtain ⟨l1, g1⟩ := asOfs_get ha
  obtain ⟨l2, g2⟩ := hk.get
  have l3 : as0.length = vs0.length := l1.trans l2
  have own : ∀ (k : Nat) (o : Ov), (as0 ++ dds.map .val)[k]? = some (.own o) → ∃ (j : Nat) (b : Bool) (v : V), aks[k]? = some (.s j) ∧ S[j]? = some (.own o b) ∧ σ[j]? = some (some v) ∧ (vs0 ++ dvs)[k]? = some v := fun k o e => by
    by_cases hl : k < as0.length
    · rw [List.getElem?_append_left hl] at e
      obtain ⟨ak, e1, e2⟩ := g1 k _ e
      obtain ⟨i, b, rfl, e3⟩ := asOf_own e2
      obtain ⟨v, e4, e5⟩ := g2 k _ e1
      exact ⟨i, b, v, e1, e3, e5, by rw [List.getElem?_append_left (by rw [← l3]; exact hl)]; exact e4⟩
    · rw [List.getElem?_append_right (by omega), List.getElem?_map] at e
      cases q : dds[k - as0.length]? with
      | none => rw [q] at e; cases e
      | some d => rw [q] at e; cases e
  have lent : ∀ k a, lentTo (as0 ++ dds.map .val) (vs0 ++ dvs) k a → ∃ (j : Nat) (o : Ov) (b : Bool), aks[k]? = some (.s j) ∧ S[j]? = some (.own o b) ∧ σ[j]? = some (some (.ref a)) := fun k a ⟨o, e1, e2⟩ => by
    obtain ⟨j, b, v, h1, h2, h3, h4⟩ := own k o e1
    rw [e2] at h4; cases h4
    exact ⟨j, o, b, h1, h2, h3⟩
  have slotAt : ∀ {l : List AK}, (slotsIn l).Nodup → ∀ (k k' i : Nat), l[k]? = some (.s i) → l[k']? = some (.s i) → k = k' := fun {l} => by
    induction l with
    | nil => intro _ k k' i e; simp at e
    | cons a r ih =>
      intro nd k k' i e1 e2
      have mem : ∀ {l : List AK} {k i : Nat}, l[k]? = some (.s i) → i ∈ slotsIn l := fun {l} => by
        induction l with
        | nil => intro k i e; simp at e
        | cons a r ih =>
          intro k i e
          cases k with
          | zero => cases e; exact List.mem_cons_self
          | succ k =>
            cases a with
            | v d => exact ih (k := k) e
            | s j => exact List.mem_cons_of_mem _ (ih (k := k) e)
      cases a with
      | v d =>
        cases k with
        | zero => cases e1
        | succ k => cases k' with
          | zero => cases e2
          | succ k' => rw [ih nd k k' i e1 e2]
      | s j =>
        obtain ⟨n1, n2⟩ := List.nodup_cons.mp nd
        cases k with
        | zero => cases k' with
          | zero => rfl
          | succ k' => cases e1; exact absurd (mem (l := r) (k := k') e2) n1
        | succ k => cases k' with
          | zero => cases e2; exact absurd (mem (l := r) (k := k) e1) n1
          | succ k' => rw [ih n2 k k' i e1 e2]
  refine ⟨⟨⟨fx.C, R.bg.now, fun k f e => ?_⟩, R.fnx, ?_, R.sub, fun k d e => ?_, fun k o e => ?_, fun i j a h1 h2 => ?_⟩, lent⟩
  · by_cases hl : k < as0.length
    · rw [List.getElem?_append_left hl] at e
      obtain ⟨ak, e1, e2⟩ := g1 k _ e
      obtain ⟨i, rfl, e3⟩ := asOf_cb e2
      obtain ⟨v, e4, e5⟩ := g2 k _ e1
      have e5' : σ[i]? = some (some v) := e5
      obtain ⟨a, h1, h2⟩ := R.cb i f e3
      rw [h1] at e5'; cases e5'
      exact ⟨a, by rw [List.getElem?_append_left (by rw [← l3]; exact hl)]; exact e4, (h2.mono (Ext.refl _) R.sub0).any⟩
    · rw [List.getElem?_append_right (by omega), List.getElem?_map] at e
      cases q : dds[k - as0.length]? with
      | none => rw [q] at e; cases e
      | some d => rw [q] at e; cases e
  · rw [List.length_append, List.length_append, List.length_map, l3, hd.len]
  · by_cases hl : k < as0.length
    · rw [List.getElem?_append_left hl] at e
      obtain ⟨ak, e1, e2⟩ := g1 k _ e
      obtain ⟨v, e4, e5⟩ := g2 k _ e1
      refine ⟨v, by rw [List.getElem?_append_left (by rw [← l3]; exact hl)]; exact e4, ?_⟩
      cases ak with
      | v d' => cases e2; exact e5
      | s i =>
        simp only [asOf] at e2
        split at e2
        · cases e2
        · rename_i d' e6
          cases e2
          obtain ⟨v', h1, h2⟩ := R.val i d e6
          have e5' : σ[i]? = some (some v) := e5
          rw [h1] at e5'; cases e5'
          exact h2
        · cases e2
        · cases e2
    · rw [List.getElem?_append_right (by omega), List.getElem?_map] at e
      cases q : dds[k - as0.length]? with
      | none => rw [q] at e; cases e
      | some d' =>
        rw [q] at e; cases e
        obtain ⟨v, h1, h2⟩ := hd.get q
        exact ⟨v, by rw [List.getElem?_append_right (by omega), ← l3]; exact h1, h2⟩
  · obtain ⟨j, b, v, h1, h2, h3, h4⟩ := own k o e
    obtain ⟨a, e1, e2, e3, _, _⟩ := R.own j o b h2
    rw [h3] at e1; cases e1
    exact ⟨a, h4, e2, e3⟩
  · obtain ⟨p, o, b, q1, q2, q3⟩ := lent i a h1
    obtain ⟨p', o', b', r1, r2, r3⟩ := lent j a h2
    have := R.inj p p' o o' b b' a q2 r2 q3 r3
    subst this
    exact slotAt (nodupB_of hn) i j p q1 r1
/-- what is wanted of a call's end -/
noncomputable def Want (Γ : Gam) (fx : Fx) (σ : L2.St) (F : Hp) (Q : VK) (E : WX) (r : R (Pv × Slots)) : Prop := match r with
  | .ok (pv, S') => ∀ v H' F', Ext F F' → Rel Γ fx S' σ H' F' → PvOk Γ fx S' σ H' F' pv v → Q v H'
  | .exc x S' => ∀ cls d H' F', Ext F F' → Rel Γ fx S' σ H' F' → XRep Γ F' H' x cls d → E cls d σ H'
  | .bad => False
theorem Post.want {σ : L2.St} {F : Hp} {r : R (Pv × Slots)} {Q : VK} (h : Post Γ fx E σ F r fun pv S' H' F' => ∀ v, PvOk Γ fx S' σ H' F' pv v → Q v H') : Want Γ fx σ F Q E r := by
  cases r with
  | ok p => obtain ⟨pv, S'⟩ := p; exact fun v H' F' e R ok => h H' F' e R v ok
  | exc x S' => exact h
  | bad => exact h
/-- THE RULE of a call: what the callee promises, taken up -/
theorem call_core {f : Fn} {n : Nat} {dds : List D} {dvs : List V} {aks : List AK} {vs : List V} {S1 : Slots} {σ : L2.St} {H1 F1 : Hp} {Q : VK} (R1 : Rel Γ fx S1 σ H1 F1) (hk : AKsOk Γ σ F1 aks vs) (hd : Reps Γ F1 dds dvs) (hlen : aks.length + dds.length = n)
    (q1 : Want Γ fx σ F1 Q E (callK f dds aks S1)) : spG Γ n f (vs ++ dvs) H1 Q (WE E σ) := by
  unfold callK at q1
  cases ea : asOfs S1 aks with
  | none => simp only [ea] at q1; exact q1.elim
  | some as0 =>
    simp only [ea] at q1
    split at q1
    · rename_i hn
      obtain ⟨Ar, hW⟩ := call_args R1 ea hk hd hn
      refine ⟨_, F1, Ar, by rw [List.length_append, List.length_map, (asOfs_get ea).1]; exact hlen, ?_⟩
      have back : ∀ {as' : List Rv} {H' F' : Hp}, After Γ (as0 ++ dds.map .val) (vs ++ dvs) H1 F1 as' H' F' → Rel Γ fx (putBack S1 aks as') σ H' F' := fun {as' H' F'} A => by
        refine R1.after A putBack_len (fun k a hk => ?_) fun j sv e => ?_
        · obtain ⟨j, o, b, _, h2, h3⟩ := hW k a hk
          exact ⟨j, o, b, h2, h3⟩
        · rcases putBack_get e with ⟨h1, h2⟩ | ⟨n', o, o0, b, h1, h2, h3, h4⟩
          · refine .inl ⟨h1, fun o b k a hs hl hσ => ?_⟩
            obtain ⟨j', o', b', g1, g2, g3⟩ := hW k a hl
            subst hs
            have := R1.inj j j' _ _ _ _ a h1 g2 hσ g3
            subst this
            obtain ⟨_, o2, g4, _⟩ := A.own k a hl
            exact h2 k o2 g1 g4 _ _ h1
          · obtain ⟨a, g1, g2, g3, _, _⟩ := R1.own j o0 b h2
            refine .inr ⟨n', a, o, o0, b, h1, h2, g1, ?_, h4⟩
            obtain ⟨v, k1, k2⟩ := hk.get.2 n' _ h3
            have k2' : σ[j]? = some (some v) := k2
            rw [g1] at k2'; cases k2'
            have hl : n' < vs.length := (List.getElem?_eq_some_iff.mp k1).1
            obtain ⟨l1, f1⟩ := asOfs_get ea
            have l2 := hk.get.1
            have hl2 : n' < as0.length := by omega
            obtain ⟨ak, m1, m2⟩ := f1 n' as0[n'] (List.getElem?_eq_getElem hl2)
            rw [h3] at m1; cases m1
            have m2' : (match S1[j]? with | some (.own o _) => some (Rv.own o) | some (.val d) => some (.val d) | some (.cb f) => some (.cb f) | _ => none) = some as0[n'] := m2
            rw [h2] at m2'
            cases m3 : as0[n'] with
            | val d => rw [m3] at m2'; cases m2'
            | cb d => rw [m3] at m2'; cases m2'
            | own o3 =>
              refine ⟨o3, ?_, ?_⟩
              · rw [List.getElem?_append_left hl2, List.getElem?_eq_getElem hl2, m3]
              · rw [List.getElem?_append_left hl]; exact k1
      cases ef : f (as0 ++ dds.map .val) with
      | bad => simp only [ef] at q1; exact q1.elim
      | exc x as' =>
        simp only [ef] at q1
        exact fun cls d H' F' A xr => q1 cls d H' F' A.ext (back A) xr
      | ok r as' =>
        simp only [ef] at q1
        refine fun v H' F' A ok => q1 v H' F' A.ext (back A) ?_
        cases r with
        | val d => exact ok
        | cb f => exact ok.elim
        | own o =>
          obtain ⟨a, rfl, h1, h2, h3⟩ := ok
          have R2 := back A
          obtain ⟨f1, f2, f3, f4⟩ := R1.fresh h2
          refine ⟨a, rfl, h1, h3, f4, f2, fun i o' b e w => ?_⟩
          have : ∃ o0 b0, S1[i]? = some (.own o0 b0) := by
            rcases putBack_get e with ⟨z, _⟩ | ⟨_, _, o0, b0, _, z, _, _⟩
            · exact ⟨_, _, z⟩
            · exact ⟨_, _, z⟩
          obtain ⟨o0, b0, z⟩ := this
          exact R1.ownNe z w h2 rfl
    · exact q1.elim
end
end G
namespace G
open PySem PySem.Spec PyProof.Rows L2
/-! ### data as the library has it -/
mutual
noncomputable def pyD : D → Option PyData
  | .non => some .none
  | .bl b => some (.bool b)
  | .int i => some (.int i)
  | .str x => some (.str x)
  | .tup ds => (pyDs ds).map .tuple
  | .lst ds => (pyDs ds).map .list
  | _ => none
noncomputable def pyDs : List D → Option (List PyData)
  | [] => some []
  | d :: r => match pyD d, pyDs r with
    | some x, some xs => some (x :: xs)
    | _, _ => none
end
section
variable {Γ : Gam} {F H : Hp}
mutual
theorem Rep.dp (e : Ext F H) : ∀ {d : D} {v : V} {p : PyData}, Rep Γ F d v → pyD d = some p → Dp Γ.K H v p
  | .non, v, p, h, q => by cases h; cases q; exact .non
  | .bl b, v, p, h, q => by cases h; cases q; exact .bl b
  | .int i, v, p, h, q => by cases h; cases q; exact .int i
  | .str x, v, p, h, q => by cases h; cases q; exact .str x
  | .tup ds, v, p, h, q => by
    obtain ⟨a, vs, rfl, hT, r⟩ := h
    unfold pyD at q
    cases e1 : pyDs ds with
    | none => rw [e1] at q; cases q
    | some ps => rw [e1] at q; cases q; exact .tup (e.sqT hT) (Reps.dp e r e1)
  | .lst ds, v, p, h, q => by
    obtain ⟨a, vs, rfl, hT, r⟩ := h
    unfold pyD at q
    cases e1 : pyDs ds with
    | none => rw [e1] at q; cases q
    | some ps => rw [e1] at q; cases q; exact .lst (SqL.of (e _ _ hT)) (Reps.dp e r e1)
  | .dic _ _, v, p, h, q => by cases q
  | .ins _ _ _, v, p, h, q => by cases q
  | .clo _ _, v, p, h, q => by cases q
  | .scr _, v, p, h, q => by cases q
  | .cls _, v, p, h, q => by cases q
theorem Reps.dp (e : Ext F H) : ∀ {ds : List D} {vs : List V} {ps : List PyData}, Reps Γ F ds vs → pyDs ds = some ps → DpAll Γ.K H vs ps
  | [], vs, ps, h, q => by cases h; cases q; exact .nil
  | d :: r, vs, ps, h, q => by
    obtain ⟨v, u, rfl, h1, h2⟩ := h
    unfold pyDs at q
    split at q
    · rename_i x xs e1 e2
      cases q
      exact .cons (Rep.dp e h1 e1) (Reps.dp e h2 e2)
    · cases q
end
/-- data as it is read: given away, or the object that a slot alone holds -/
noncomputable def Pk (Γ : Gam) (F H : Hp) (d : D) (v : V) : Prop := Rep Γ F d v ∨ ∃ o a, d = Ov.d o ∧ v = .ref a ∧ OwnAt Γ F H o a
theorem Pk.list {ds : List D} {v : V} (e : Ext F H) (h : Pk Γ F H (.lst ds) v) : ∃ a vs, v = .ref a ∧ H a = some (.lst vs) ∧ Reps Γ F ds vs := by
  rcases h with ⟨a, vs, rfl, hT, r⟩ | ⟨o, a, e1, rfl, h⟩
  · exact ⟨a, vs, rfl, e _ _ hT, r⟩
  · cases o with
    | lst ds' =>
      cases e1
      obtain ⟨vs, h1, r⟩ := h
      exact ⟨a, vs, rfl, h1, r⟩
    | ins c fs ds' => cases e1
    | dic ks vs => cases e1
theorem Pk.tup {ds : List D} {v : V} (e : Ext F H) (h : Pk Γ F H (.tup ds) v) : ∃ a vs, v = .ref a ∧ SqT Γ.K F a vs ∧ Reps Γ F ds vs := by
  rcases h with h | ⟨o, a, e1, rfl, h⟩
  · exact h
  · cases o <;> cases e1
theorem Pk.ins {c : Nat} {fs : List Str} {ds : List D} {v : V} (e : Ext F H) (h : Pk Γ F H (.ins c fs ds) v) : ∃ a dx l, v = .ref a ∧ H a = some (.ins (Γ.cl c) dx l) ∧ l.map (·.1) = fs ∧ Reps Γ F ds (l.map (·.2)) := by
  rcases h with ⟨a, dx, l, rfl, h1, e2, r⟩ | ⟨o, a, e1, rfl, h⟩
  · exact ⟨a, dx, l, rfl, e _ _ h1, e2, r⟩
  · cases o with
    | ins c' fs' ds' =>
      cases e1
      obtain ⟨dx, l, h1, e2, r⟩ := h
      exact ⟨a, dx, l, rfl, h1, e2, r⟩
    | lst ds' => cases e1
    | dic ks vs => cases e1
theorem Pk.scr {ds : List D} {v : V} (e : Ext F H) (h : Pk Γ F H (.scr ds) v) : ∃ a vs, v = .ref a ∧ SqL Γ.K H a vs ∧ Reps Γ F ds vs := by
  rcases h with ⟨a, vs, rfl, hT, r⟩ | ⟨o, a, e1, rfl, h⟩
  · exact ⟨a, vs, rfl, e.sqL hT, r⟩
  · cases o <;> cases e1
theorem Pk.int {i : Int} {v : V} (h : Pk Γ F H (.int i) v) : v = .int i := by
  rcases h with h | ⟨o, a, e1, _⟩
  · exact h
  · cases o <;> cases e1
theorem Pk.bl {i : Bool} {v : V} (h : Pk Γ F H (.bl i) v) : v = .bl i := by
  rcases h with h | ⟨o, a, e1, _⟩
  · exact h
  · cases o <;> cases e1
theorem Pk.str {i : Str} {v : V} (h : Pk Γ F H (.str i) v) : v = .str i := by
  rcases h with h | ⟨o, a, e1, _⟩
  · exact h
  · cases o <;> cases e1
theorem Pk.non {v : V} (h : Pk Γ F H .non v) : v = .non := by
  rcases h with h | ⟨o, a, e1, _⟩
  · exact h
  · cases o <;> cases e1
theorem Pk.dp {d : D} {v : V} {p : PyData} (e : Ext F H) (h : Pk Γ F H d v) (q : pyD d = some p) : Dp Γ.K H v p := by
  rcases h with h | ⟨o, a, rfl, rfl, h⟩
  · exact h.dp e q
  · cases o with
    | lst ds =>
      obtain ⟨vs, h1, r⟩ := h
      have q' : (pyDs ds).map PyData.list = some p := by unfold Ov.d pyD at q; exact q
      cases e1 : pyDs ds with
      | none => rw [e1] at q'; cases q'
      | some ps => rw [e1] at q'; cases q'; exact .lst (.inl (.inl h1)) (r.dp e e1)
    | ins c fs ds => cases q
    | dic ks vs => cases q
end
/-! ### operands -/
/-- what an operand hands on: data, or the object of a slot, read when it is used -/
inductive Pd where
  | d (d : D)
  | sl (i : Nat)
noncomputable def drf (S : Slots) : Pd → Option D
  | .d d => some d
  | .sl i => match S[i]? with
    | some (.own o _) => some o.d
    | some (.val d) => some d
    | _ => none
noncomputable def PdOk (Γ : Gam) (σ : L2.St) (F : Hp) : Pd → V → Prop
  | .d d, v => Rep Γ F d v
  | .sl i, v => σ[i]? = some (some v)
theorem PdOk.mono {Γ : Gam} {σ : L2.St} {F F' : Hp} {p : Pd} {v : V} (e : Ext F F') (h : PdOk Γ σ F p v) : PdOk Γ σ F' p v := by
  cases p with
  | d d => exact Rep.mono e h
  | sl i => exact h
theorem PdOk.pk {Γ : Gam} {fx : Fx} {S : Slots} {σ : L2.St} {H F : Hp} {p : Pd} {v : V} {d : D} (R : Rel Γ fx S σ H F) (h : PdOk Γ σ F p v) (e : drf S p = some d) : Pk Γ F H d v := by
  cases p with
  | d d' => cases e; exact .inl h
  | sl i =>
    simp only [drf] at e
    split at e
    · rename_i o b e1
      cases e
      obtain ⟨a, e2, _, o1, _⟩ := R.own i o b e1
      have h' : σ[i]? = some (some v) := h
      rw [e2] at h'; cases h'
      exact .inr ⟨o, a, rfl, rfl, o1⟩
    · rename_i d1 e1
      cases e
      obtain ⟨v', e2, r⟩ := R.val i _ e1
      have h' : σ[i]? = some (some v) := h
      rw [e2] at h'; cases h'
      exact .inl r
    · cases e
noncomputable def tP (Γ : Gam) (fx : Fx) (E : WX) (g : M Pd) : TE := fun σ H Q => ∃ S F, Rel Γ fx S σ H F ∧ Post Γ fx E σ F (g S) fun p S' H' F' => ∀ v, PdOk Γ σ F' p v → Q v H'
noncomputable def GP (Γ : Gam) (fx : Fx) (E : WX) (X : Cx) (e : Expr) (g : M Pd) : Prop := PE X e (tP Γ fx E g)
section
variable {Γ : Gam} {fx : Fx} {E : WX} {X : Cx} {pos : Pos}
noncomputable def pD (g : M D) : M Pd := M.bind g fun d => M.pure (Pd.d d)
theorem GV.p {e : Expr} {g : M D} (h : GV Γ fx E X e g) : GP Γ fx E X e (pD g) :=
  PE.weak h fun σ H Q ⟨S, F, Rl, q⟩ => ⟨S, F, Rl, Post.imp (Post.bind q) fun d S' H' F' _ R' q' v r => Post.pure q' R' v r⟩
theorem GE.p {e : Expr} {g : M Pv} (h : GE Γ fx E X e g) : GP Γ fx E X e (pD (toV g)) := h.v.p
noncomputable def pS (i : Nat) : M Pd := fun S => match S[i]? with
  | some (.own _ _) => .ok (.sl i, S)
  | some (.val d) => .ok (.d d, S)
  | _ => .bad
theorem gp_var (i : Nat) {x : Str} {pos : Pos} (hN : X.N[i]? = some x := by rfl) (hv : Vis X.env.scope x := by first | exact Or.inl rfl | exact Or.inr (Or.inl rfl) | exact Or.inr (Or.inr rfl)) (hd : (x == ("__debug__" : Str)) = false := by decide)
    (hcd : (x == ("__classdict__" : Str)) = false := by decide) : GP Γ fx E X (.Name x pos) (pS i) := by
  refine PE.weak (pe_var hN hv hd hcd) fun σ H Q ⟨S, F, Rl, q⟩ => ?_
  unfold pS at q
  cases e : S[i]? with
  | none => rw [e] at q; exact q.elim
  | some sv =>
    rw [e] at q
    cases sv with
    | no => exact q.elim
    | cb _ => exact q.elim
    | val d =>
      obtain ⟨v, e1, r⟩ := Rl.val i d e
      exact ⟨v, e1, q H F (Ext.refl F) Rl v r⟩
    | own o b =>
      obtain ⟨a, e1, _⟩ := Rl.own i o b e
      exact ⟨_, e1, q H F (Ext.refl F) Rl _ e1⟩
/-- an operator's reading gives what o says -/
noncomputable def OpK (Γ : Gam) (r : R2) (o : D → D → Option Pv) : Prop := ∀ (fx : Fx) (S : Slots) (σ : L2.St) (H F : Hp) (d1 d2 : D) (pv : Pv) (x y : V) (Q : VK), Rel Γ fx S σ H F → o d1 d2 = some pv → Pk Γ F H d1 x → Pk Γ F H d2 y →
  (∀ v H' F', Ext F F' → Rel Γ fx S σ H' F' → PvOk Γ fx S σ H' F' pv v → Q v H') → r x y H Q
noncomputable def gOp (o : D → D → Option Pv) (ga gb : M Pd) : M Pv := M.bind ga fun a => M.bind gb fun b => fun S => match drf S a, drf S b with
  | some x, some y => M.lift (o x y) S
  | _, _ => .bad
theorem tOp_k {r : R2} {o : D → D → Option Pv} {ga gb : M Pd} (hs : OpK Γ r o) {σ H Q} (h : tG Γ fx E (gOp o ga gb) σ H Q) : tOp r (tP Γ fx E ga) (tP Γ fx E gb) σ H Q := by
  obtain ⟨S, F, Rl, q⟩ := h
  refine ⟨S, F, Rl, Post.imp (Post.bind q) fun d1 S1 H1 F1 e1 R1 q1 v1 r1 => ⟨S1, F1, R1, Post.imp (Post.bind q1) fun d2 S2 H2 F2 e2 R2 q2 v2 r2 => ?_⟩⟩
  cases ea : drf S2 d1 with
  | none => simp only [ea] at q2; exact q2.elim
  | some x =>
    cases eb : drf S2 d2 with
    | none => simp only [ea, eb] at q2; exact q2.elim
    | some y =>
      simp only [ea, eb] at q2
      obtain ⟨pv, eo, k⟩ := Post.lift q2 R2
      exact hs fx S2 σ H2 F2 x y pv v1 v2 Q R2 eo ((r1.mono e2).pk R2 ea) (r2.pk R2 eb) fun v H' F' ex R' ok => k H' F' ex R' v ok
theorem ge_op {op : Operator} {r : R2} {o : D → D → Option Pv} {a b : Expr} {ga gb : M Pd} (ho : OpR X (binaryOp op) r) (hs : OpK Γ r o) (ha : GP Γ fx E X a ga) (hb : GP Γ fx E X b gb) : GE Γ fx E X (.BinOp a op b pos) (gOp o ga gb) :=
  PE.weak (pe_op ho ha hb) fun σ H Q h => tOp_k hs h
theorem ge_cp {op : CmpOp} {r : R2} {o : D → D → Option Pv} {a b : Expr} {ga gb : M Pd} (ho : OpR X (compareOp op) r) (hs : OpK Γ r o) (ha : GP Γ fx E X a ga) (hb : GP Γ fx E X b gb) (hm : behindInMarks op b = false := by first | exact nomark _ | rfl) : GE Γ fx E X (.Compare a [op] [b] pos) (gOp o ga gb) :=
  PE.weak (pe_cmpR ho ha hb hm) fun σ H Q h => tOp_k hs h
/-- a comparison as a test -/
theorem gt_cp {op : CmpOp} {r : R2} {o : D → D → Option Pv} {a b : Expr} {ga gb : M Pd} (ho : OpR X (compareOp op) r) (hs : OpK Γ r o) (ha : GP Γ fx E X a ga) (hb : GP Γ fx E X b gb) (hm : behindInMarks op b = false := by first | exact nomark _ | rfl) : GT Γ fx E X (.Compare a [op] [b] pos) (gB (toV (gOp o ga gb))) := by
  have h1 : PT X (.Compare a [op] [b] pos) _ := pt_cmpR ho ha hb hm
  refine PT.weak h1 fun σ H Q ⟨S, F, Rl, q⟩ => ?_
  refine tOp_k hs ⟨S, F, Rl, ?_⟩
  refine Post.imp (Post.bind (Post.bind q)) fun pv S' H' F' e1 R1 q1 v ok => ?_
  obtain ⟨d, S2, F2, R2, e2, rd, k⟩ := give_post R1 q1 ok
  obtain ⟨b, eb, k'⟩ := Post.lift k R2
  exact ⟨b, asB_rep eb rd, k' H' F2 (Ext.refl _) R2⟩
/-! ### the operators by data -/
theorem PvOk.dat {S : Slots} {σ : L2.St} {H F : Hp} {d : D} {v : V} (h : Rep Γ F d v) : PvOk Γ fx S σ H F (.dat d) v := h
/-- two data that the library can compare -/
noncomputable def eqB (d e : D) : Option Bool := match pyD d, pyD e with
  | some p, some q => if SeqAt.shaped p && SeqAt.shaped q then some (PyData.eqv p q) else none
  | _, _ => none
theorem eqB_of {d e : D} {b : Bool} (h : eqB d e = some b) : ∃ p q, pyD d = some p ∧ pyD e = some q ∧ SeqAt.shaped p = true ∧ SeqAt.shaped q = true ∧ b = PyData.eqv p q := by
  unfold eqB at h
  split at h
  · rename_i p q e1 e2
    split at h
    · rename_i hs
      rw [Bool.and_eq_true] at hs
      cases h
      exact ⟨p, q, e1, e2, hs.1, hs.2, rfl⟩
    · cases h
  · cases h
noncomputable def oEq (d e : D) : Option Pv := (eqB d e).map fun b => .dat (.bl b)
noncomputable def oNe (d e : D) : Option Pv := (eqB d e).map fun b => .dat (.bl (!b))
theorem map_some {α β : Type} {o : Option α} {f : α → β} {y : β} (h : o.map f = some y) : ∃ x, o = some x ∧ y = f x := by
  cases o with
  | none => cases h
  | some x => cases h; exact ⟨x, rfl, rfl⟩
theorem ok_eq : OpK Γ (rEqD Γ.K) oEq := fun fx S σ H F d1 d2 pv x y Q R e h1 h2 k => by
  obtain ⟨b, e1, rfl⟩ := map_some e
  obtain ⟨p, q, e2, e3, s1, s2, rfl⟩ := eqB_of e1
  exact ⟨p, q, h1.dp R.sub e2, h2.dp R.sub e3, s1, s2, k _ H F (Ext.refl _) R rfl⟩
theorem ok_ne : OpK Γ (rNeD Γ.K) oNe := fun fx S σ H F d1 d2 pv x y Q R e h1 h2 k => by
  obtain ⟨b, e1, rfl⟩ := map_some e
  obtain ⟨p, q, e2, e3, s1, s2, rfl⟩ := eqB_of e1
  exact ⟨p, q, h1.dp R.sub e2, h2.dp R.sub e3, s1, s2, k _ H F (Ext.refl _) R rfl⟩
noncomputable def inB (d e : D) : Option Bool := match d, e with
  | d, .lst es => match pyD d, pyDs es with
    | some p, some qs => if SeqAt.shaped p && SeqAt.shaped (.list qs) then some (qs.any fun z => PyData.eqv z p) else none
    | _, _ => none
  | d, .tup es => match pyD d, pyDs es with
    | some p, some qs => if SeqAt.shaped p && SeqAt.shaped (.tuple qs) then some (qs.any fun z => PyData.eqv z p) else none
    | _, _ => none
  | .str i, .str j => some (!(Builtin.Str.occurrences j i 0 j.length 1).isEmpty)
  | _, _ => none
noncomputable def oIn (d e : D) : Option Pv := (inB d e).map fun b => .dat (.bl b)
noncomputable def oNotIn (d e : D) : Option Pv := (inB d e).map fun b => .dat (.bl (!b))
/-! ints -/
noncomputable def oI2 (C : Int → Int → Bool) (f : Int → Int → D) (d e : D) : Option Pv := match d, e with
  | .int i, .int j => if C i j then some (.dat (f i j)) else none
  | _, _ => none
theorem oI2_of {C : Int → Int → Bool} {f : Int → Int → D} {d e : D} {pv : Pv} (h : oI2 C f d e = some pv) : ∃ i j, d = .int i ∧ e = .int j ∧ C i j = true ∧ pv = .dat (f i j) := by
  unfold oI2 at h
  split at h
  · split at h
    · rename_i hc; cases h; exact ⟨_, _, rfl, rfl, hc, rfl⟩
    · cases h
  · cases h
theorem ok_I2 {C : Int → Int → Bool} {P : Int → Int → Prop} {f : Int → Int → D} {g : Int → Int → V} (hC : ∀ i j, C i j = true → P i j) (hf : ∀ F i j, Rep Γ F (f i j) (g i j)) : OpK Γ (rI P g) (oI2 C f) := fun fx S σ H F d1 d2 pv x y Q R e h1 h2 k => by
  obtain ⟨i, j, rfl, rfl, hc, rfl⟩ := oI2_of e
  exact ⟨i, j, h1.int, h2.int, hC i j hc, k _ H F (Ext.refl _) R (hf F i j)⟩
theorem ok_I0 {f : Int → Int → D} {g : Int → Int → V} (hf : ∀ F i j, Rep Γ F (f i j) (g i j)) : OpK Γ (rI0 g) (oI2 (fun _ _ => true) f) := fun fx S σ H F d1 d2 pv x y Q R e h1 h2 k => by
  obtain ⟨i, j, rfl, rfl, _, rfl⟩ := oI2_of e
  exact ⟨i, j, h1.int, h2.int, k _ H F (Ext.refl _) R (hf F i j)⟩
noncomputable def oSub : D → D → Option Pv := oI2 (fun _ _ => true) fun i j => .int (i - j)
noncomputable def oMod : D → D → Option Pv := oI2 (fun _ j => decide (0 < j)) fun i j => .int (i % j)
theorem ok_mod : OpK Γ (rI (fun _ j => 0 < j) fun i j => .int (i % j)) oMod := ok_I2 (fun _ _ h => of_decide_eq_true h) fun _ _ _ => rfl
noncomputable def oFdiv : D → D → Option Pv := oI2 (fun _ j => decide (0 < j) && decide (j.natAbs.log2 < 9000)) fun i j => .int (i / j)
theorem ok_fdiv : OpK Γ (rI CDivW fun i j => .int (i / j)) oFdiv := ok_I2 (fun _ _ h => by rw [Bool.and_eq_true] at h; exact ⟨of_decide_eq_true h.1, of_decide_eq_true h.2⟩) fun _ _ _ => rfl
noncomputable def oPow : D → D → Option Pv := oI2 (fun i j => decide (0 ≤ j) && decide (j ≤ 1000000) && decide (i.natAbs < 2 ^ 64)) fun i j => .int (i ^ j.toNat)
theorem ok_pow : OpK Γ (rI CPow fun i j => .int (i ^ j.toNat)) oPow := ok_I2 (fun _ _ h => by
  rw [Bool.and_eq_true, Bool.and_eq_true] at h; exact ⟨of_decide_eq_true h.1.1, of_decide_eq_true h.1.2, of_decide_eq_true h.2⟩) fun _ _ _ => rfl
noncomputable def oLt : D → D → Option Pv := oI2 (fun _ _ => true) fun i j => .bl (decide (i < j))
theorem ok_lt : OpK Γ (rI0 fun i j => .bl (decide (i < j))) oLt := ok_I0 fun _ _ _ => rfl
noncomputable def oLe : D → D → Option Pv := oI2 (fun _ _ => true) fun i j => .bl (decide (i ≤ j))
noncomputable def oGt : D → D → Option Pv := oI2 (fun _ _ => true) fun i j => .bl (decide (j < i))
theorem ok_gt : OpK Γ (rI0 fun i j => .bl (decide (j < i))) oGt := ok_I0 fun _ _ _ => rfl
noncomputable def oGe : D → D → Option Pv := oI2 (fun _ _ => true) fun i j => .bl (decide (j ≤ i))
theorem ok_ge : OpK Γ (rI0 fun i j => .bl (decide (j ≤ i))) oGe := ok_I0 fun _ _ _ => rfl
/-- + : ints, texts, lists, tuples -/
noncomputable def oAdd (d e : D) : Option Pv := match d, e with
  | .int i, .int j => some (.dat (.int (i + j)))
  | .str i, .str j => if i.length + j.length ≤ sizeLine then some (.dat (.str (i ++ j))) else none
  | .lst xs, .lst ys => if xs.length + ys.length ≤ sizeLine then some (.fr (.lst (xs ++ ys))) else none
  | .tup xs, .tup ys => if xs.length + ys.length ≤ sizeLine then some (.dat (.tup (xs ++ ys))) else none
  | _, _ => none
noncomputable def rAddK (K : PySem.W.Frag) : R2 := fun x y H Q => (rI0 (fun i j => .int (i + j)) x y H Q ∨ ∃ i j, x = .str i ∧ y = .str j ∧ i.length + j.length ≤ sizeLine ∧ Q (.str (i ++ j)) H) ∨ (rCat x y H Q ∨ rCatA K x y H Q)
theorem op_addK : OpR X (binaryOp .Add) (rAddK X.K) := (op_add.or op_add_str).or (op_cat.or op_catA)
theorem Reps.nil_iff {F : Hp} {ds : List D} {vs : List V} (r : Reps Γ F ds vs) : vs = [] ↔ ds = [] := by
  have := r.len
  constructor
  · intro h; subst h; exact List.length_eq_zero_iff.mp this
  · intro h; subst h; exact List.length_eq_zero_iff.mp this.symm
theorem ok_add : OpK Γ (rAddK Γ.K) oAdd := fun fx S σ H F d1 d2 pv x y Q R e h1 h2 k => by
  unfold oAdd at e
  split at e
  · cases e; exact .inl (.inl ⟨_, _, h1.int, h2.int, k _ H F (Ext.refl _) R rfl⟩)
  · split at e
    · rename_i hl; cases e; exact .inl (.inr ⟨_, _, h1.str, h2.str, hl, k _ H F (Ext.refl _) R rfl⟩)
    · cases e
  · split at e
    · rename_i hl
      cases e
      obtain ⟨a, vs, rfl, e1, r1⟩ := h1.list R.sub
      obtain ⟨b, us, rfl, e2, r2⟩ := h2.list R.sub
      refine .inr (.inl ⟨a, b, vs, us, rfl, rfl, e1, e2, by rw [← r1.len, ← r2.len]; exact hl, fun p hp => ?_⟩)
      obtain ⟨R2, ok⟩ := new_list R (r1.append r2) hp
      exact k _ _ F (Ext.refl _) R2 ok
    · cases e
  · split at e
    · rename_i hl
      cases e
      obtain ⟨a, vs, rfl, e1, r1⟩ := h1.tup R.sub
      obtain ⟨b, us, rfl, e2, r2⟩ := h2.tup R.sub
      refine .inr (.inr ⟨a, b, vs, us, rfl, rfl, R.sub.sqT e1, R.sub.sqT e2, by rw [← r1.len, ← r2.len]; exact hl, fun z => ?_, fun _ z => ?_, fun _ z p hp => ?_⟩)
      · have z1 := r1.nil_iff.mp z
        refine k _ H F (Ext.refl _) R ?_
        rw [z1, List.nil_append]
        exact ⟨b, us, rfl, e2, r2⟩
      · have z2 := r2.nil_iff.mp z
        refine k _ H F (Ext.refl _) R ?_
        rw [z2, List.append_nil]
        exact ⟨a, vs, rfl, e1, r1⟩
      · obtain ⟨e3, R2⟩ := R.make (u := .tup (vs ++ us)) hp
        exact k _ _ _ e3 R2 ⟨p, _, rfl, .inl (.inl upd_same), (r1.append r2).mono e3⟩
    · cases e
  · cases e
/-- * : ints, a list repeated -/
noncomputable def oMul (d e : D) : Option Pv := match d, e with
  | .int i, .int j => if i.natAbs.log2 + j.natAbs.log2 < 1000000 then some (.dat (.int (i * j))) else none
  | .lst xs, .int k => if -(2 ^ 63) ≤ k ∧ k < 2 ^ 63 ∧ xs.length * k.toNat ≤ sizeLine then some (.fr (.lst (List.replicate k.toNat xs).flatten)) else none
  | _, _ => none
noncomputable def rMulK : R2 := fun x y H Q => rI CMulW (fun i j => .int (i * j)) x y H Q ∨ rRep x y H Q
theorem op_mulK : OpR X (binaryOp .Mult) rMulK := op_mulW.or op_rep
theorem Reps.rep {F : Hp} {ds : List D} {vs : List V} (r : Reps Γ F ds vs) : ∀ n, Reps Γ F (List.replicate n ds).flatten (List.replicate n vs).flatten
  | 0 => rfl
  | n + 1 => by
    rw [List.replicate_succ, List.replicate_succ, List.flatten_cons, List.flatten_cons]
    exact r.append (Reps.rep r n)
theorem ok_mul : OpK Γ rMulK oMul := fun fx S σ H F d1 d2 pv x y Q R e h1 h2 k => by
  unfold oMul at e
  split at e
  · split at e
    · rename_i hl; cases e; exact .inl ⟨_, _, h1.int, h2.int, hl, k _ H F (Ext.refl _) R rfl⟩
    · cases e
  · split at e
    · rename_i hl
      cases e
      obtain ⟨a, vs, rfl, e1, r1⟩ := h1.list R.sub
      refine .inr ⟨a, _, vs, rfl, h2.int, e1, hl.1, hl.2.1, by rw [← r1.len]; exact hl.2.2, fun p hp => ?_⟩
      obtain ⟨R2, ok⟩ := new_list R (r1.rep _) hp
      exact k _ _ F (Ext.refl _) R2 ok
    · cases e
  · cases e
/-- is None, is not None -/
noncomputable def isN : D → Option Bool
  | .non => some true
  | _ => some false
noncomputable def oIsN (d e : D) : Option Pv := match e with
  | .non => (isN d).map fun b => .dat (.bl b)
  | _ => none
noncomputable def oNotN (d e : D) : Option Pv := match e with
  | .non => (isN d).map fun b => .dat (.bl (!b))
  | _ => none
theorem isN_of {d : D} {b : Bool} {F H : Hp} {x : V} (e : isN d = some b) (h : Pk Γ F H d x) : b = decide (x = .non) := by
  cases d with
  | non => cases e; rw [h.non]; rfl
  | int i => cases e; rw [h.int]; rfl
  | bl i => cases e; rw [h.bl]; rfl
  | str i => cases e; rw [h.str]; rfl
  | tup ds => cases e; rcases h with ⟨a, _, rfl, _⟩ | ⟨_, a, _, rfl, _⟩ <;> rfl
  | lst ds => cases e; rcases h with ⟨a, _, rfl, _⟩ | ⟨_, a, _, rfl, _⟩ <;> rfl
  | dic ks ds => cases e; rcases h with ⟨a, _, rfl, _⟩ | ⟨_, a, _, rfl, _⟩ <;> rfl
  | ins c fs ds => cases e; rcases h with ⟨a, _, _, rfl, _⟩ | ⟨_, a, _, rfl, _⟩ <;> rfl
  | clo n ds => cases e; rcases h with ⟨a, _, rfl, _⟩ | ⟨_, a, _, rfl, _⟩ <;> rfl
  | scr ds => cases e; rcases h with ⟨a, _, rfl, _⟩ | ⟨_, a, _, rfl, _⟩ <;> rfl
  | cls c =>
    cases e
    rcases h with h | ⟨_, a, _, rfl, _⟩
    · obtain rfl : x = .ref _ := h
      rfl
    · rfl
theorem ok_isN : OpK Γ (fun x y H Q => y = .non ∧ Q (.bl (decide (x = .non))) H) oIsN := fun fx S σ H F d1 d2 pv x y Q R e h1 h2 k => by
  cases d2 with
  | non =>
    obtain ⟨b, e1, rfl⟩ := map_some e
    exact ⟨h2.non, k _ H F (Ext.refl _) R (by rw [isN_of e1 h1]; rfl)⟩
  | _ => cases e
theorem ok_notN : OpK Γ (fun x y H Q => y = .non ∧ Q (.bl (!decide (x = .non))) H) oNotN := fun fx S σ H F d1 d2 pv x y Q R e h1 h2 k => by
  cases d2 with
  | non =>
    obtain ⟨b, e1, rfl⟩ := map_some e
    exact ⟨h2.non, k _ H F (Ext.refl _) R (by rw [isN_of e1 h1]; rfl)⟩
  | _ => cases e
/-! ### subscripts -/
/-- d[e] -/
noncomputable def oIx (d e : D) : Option Pv := match d, e with
  | .lst xs, .int i => (atI xs i).map .dat
  | .tup xs, .int i => (atI xs i).map .dat
  | .scr xs, .int i => (atI xs i).map .dat
  | .str z, .int i => if z.length ≤ sizeLine then (atI z.cps.toList i).map fun c => .dat (.str ⟨#[c]⟩) else none
  | _, _ => none
theorem Reps.at {F : Hp} {ds : List D} {vs : List V} {i : Int} {d : D} (r : Reps Γ F ds vs) (e : atI ds i = some d) : ∃ v, atI vs i = some v ∧ Rep Γ F d v := by
  unfold atI at e ⊢
  rw [← r.len]
  cases q : ixN ds.length i with
  | none => rw [q] at e; cases e
  | some j =>
    rw [q] at e
    exact r.get e
theorem ok_ix : OpK Γ (rIx Γ.K) oIx := fun fx S σ H F d1 d2 pv x y Q R e h1 h2 k => by
  unfold oIx at e
  split at e
  · obtain ⟨d, e1, rfl⟩ := map_some e
    obtain ⟨a, vs, rfl, hL, r1⟩ := h1.list R.sub
    obtain ⟨v, e2, r⟩ := r1.at e1
    exact .inl ⟨a, vs, _, v, rfl, h2.int, SqL.of hL, e2, k _ H F (Ext.refl _) R r⟩
  · obtain ⟨d, e1, rfl⟩ := map_some e
    obtain ⟨a, vs, rfl, hL, r1⟩ := h1.tup R.sub
    obtain ⟨v, e2, r⟩ := r1.at e1
    exact .inr (.inl ⟨a, vs, _, v, rfl, h2.int, R.sub.sqT hL, e2, k _ H F (Ext.refl _) R r⟩)
  · obtain ⟨d, e1, rfl⟩ := map_some e
    obtain ⟨a, vs, rfl, hL, r1⟩ := h1.scr R.sub
    obtain ⟨v, e2, r⟩ := r1.at e1
    exact .inl ⟨a, vs, _, v, rfl, h2.int, hL, e2, k _ H F (Ext.refl _) R r⟩
  · split at e
    · rename_i hl
      obtain ⟨c, e1, rfl⟩ := map_some e
      exact .inr (.inr ⟨_, _, c, h1.str, h2.int, hl, e1, k _ H F (Ext.refl _) R rfl⟩)
    · cases e
  · cases e
theorem ge_ix {a b : Expr} {ga gb : M Pd} (hk : Γ.K = X.K) (ha : GP Γ fx E X a ga) (hb : GP Γ fx E X b gb) (hs : PlainIx b := by exact fun _ _ => rfl) : GE Γ fx E X (.Subscript a b pos) (gOp oIx ga gb) :=
  PE.weak (pe_ix ix_seq ha hb hs) fun σ H Q h => by
    have := tOp_k ok_ix h
    rw [hk] at this
    exact this
/-- d[lo:hi] -/
noncomputable def oSl (d : D) (lo hi : Option Int) : Option Pv := match d with
  | .lst xs => some (.fr (.lst ((xs.drop (HT.sIx xs.length 0 lo)).take (HT.sIx xs.length xs.length hi - HT.sIx xs.length 0 lo))))
  | .tup xs => some (.dat (.tup ((xs.drop (HT.sIx xs.length 0 lo)).take (HT.sIx xs.length xs.length hi - HT.sIx xs.length 0 lo))))
  | .scr xs => some (.fr (.lst ((xs.drop (HT.sIx xs.length 0 lo)).take (HT.sIx xs.length xs.length hi - HT.sIx xs.length 0 lo))))
  | _ => none
end
end G
namespace G
open PySem PySem.Spec PyProof.Rows L2
section
variable {Γ : Gam} {fx : Fx} {E : WX} {X : Cx} {pos : Pos}
/-! ### argument lists of built-ins -/
noncomputable def Pks (Γ : Gam) (F H : Hp) : List D → List V → Prop
  | [], vs => vs = []
  | d :: r, vs => ∃ v u, vs = v :: u ∧ Pk Γ F H d v ∧ Pks Γ F H r u
noncomputable def PdsOk (Γ : Gam) (σ : L2.St) (F : Hp) : List Pd → List V → Prop
  | [], vs => vs = []
  | p :: r, vs => ∃ v u, vs = v :: u ∧ PdOk Γ σ F p v ∧ PdsOk Γ σ F r u
theorem PdsOk.mono {σ : L2.St} {F F' : Hp} (e : Ext F F') : ∀ {ps : List Pd} {vs : List V}, PdsOk Γ σ F ps vs → PdsOk Γ σ F' ps vs
  | [], _, h => h
  | p :: r, _, ⟨v, u, e1, h, t⟩ => ⟨v, u, e1, h.mono e, PdsOk.mono e t⟩
noncomputable def drfs (S : Slots) : List Pd → Option (List D)
  | [] => some []
  | p :: r => match drf S p, drfs S r with
    | some d, some ds => some (d :: ds)
    | _, _ => none
theorem PdsOk.pk {S : Slots} {σ : L2.St} {H F : Hp} (R : Rel Γ fx S σ H F) : ∀ {ps : List Pd} {vs : List V} {ds : List D}, PdsOk Γ σ F ps vs → drfs S ps = some ds → Pks Γ F H ds vs
  | [], vs, ds, h, e => by cases e; exact h
  | p :: r, vs, ds, ⟨v, u, e1, h, t⟩, e => by
    unfold drfs at e
    split at e
    · rename_i d ds' e2 e3
      cases e
      exact ⟨v, u, e1, h.pk R e2, PdsOk.pk R t e3⟩
    · cases e
noncomputable def tPs (Γ : Gam) (fx : Fx) (E : WX) (g : M (List Pd)) : TA := fun σ H Q => ∃ S F, Rel Γ fx S σ H F ∧ Post Γ fx E σ F (g S) fun ps S' H' F' => ∀ vs, PdsOk Γ σ F' ps vs → Q vs H'
noncomputable def GPs (Γ : Gam) (fx : Fx) (E : WX) (X : Cx) (es : List Expr) (g : M (List Pd)) : Prop := PA X es (tPs Γ fx E g)
noncomputable def qNil : M (List Pd) := M.pure []
noncomputable def qCons (ga : M Pd) (gr : M (List Pd)) : M (List Pd) := M.bind ga fun a => M.bind gr fun r => M.pure (a :: r)
theorem gq_nil : GPs Γ fx E X [] qNil := PA.weak pa_nil fun σ H Q ⟨S, F, Rl, q⟩ => Post.pure q Rl [] rfl
theorem gq_cons {e : Expr} {es : List Expr} {ga : M Pd} {gr : M (List Pd)} (ha : GP Γ fx E X e ga) (hr : GPs Γ fx E X es gr) (hs : starEach (e :: es) X.env = (false, eval e X.env) :: starEach es X.env := by rfl) : GPs Γ fx E X (e :: es) (qCons ga gr) :=
  PA.weak (pa_cons ha hr hs) fun σ H Q ⟨S, F, Rl, q⟩ => ⟨S, F, Rl, Post.imp (Post.bind q) fun d S1 H1 F1 e1 R1 q1 v r1 => ⟨S1, F1, R1, Post.imp (Post.bind q1) fun ds S2 H2 F2 e2 R2 q2 vs r2 =>
    Post.pure q2 R2 _ ⟨v, vs, rfl, r1.mono e2, r2⟩⟩⟩
noncomputable def CbK (Γ : Gam) (r : List V → Hp → VK → Prop) (o : List D → Option Pv) : Prop := ∀ (fx : Fx) (S : Slots) (σ : L2.St) (H F : Hp) (ds : List D) (pv : Pv) (vs : List V) (Q : VK), Rel Γ fx S σ H F → o ds = some pv → Pks Γ F H ds vs →
  (∀ v H' F', Ext F F' → Rel Γ fx S σ H' F' → PvOk Γ fx S σ H' F' pv v → Q v H') → r vs H Q
noncomputable def gBi (o : List D → Option Pv) (g : M (List Pd)) : M Pv := M.bind g fun ps => fun S => match drfs S ps with
  | some ds => M.lift (o ds) S
  | none => .bad
theorem tCB_k {r : List V → Hp → VK → Prop} {o : List D → Option Pv} {g : M (List Pd)} (hs : CbK Γ r o) {σ H Q} (h : tG Γ fx E (gBi o g) σ H Q) : tCB r (tPs Γ fx E g) σ H Q := by
  obtain ⟨S, F, Rl, q⟩ := h
  refine ⟨S, F, Rl, Post.imp (Post.bind q) fun ps S1 H1 F1 e1 R1 q1 vs r1 => ?_⟩
  cases ea : drfs S1 ps with
  | none => simp only [ea] at q1; exact q1.elim
  | some ds =>
    simp only [ea] at q1
    obtain ⟨pv, eo, k⟩ := Post.lift q1 R1
    exact hs fx S1 σ H1 F1 ds pv vs Q R1 eo (r1.pk R1 ea) fun v H' F' ex R' ok => k H' F' ex R' v ok
theorem ge_bi {x : Str} {p : Pos} {id : String} {e : Expr} {es : List Expr} {r : List V → Hp → VK → Prop} {o : List D → Option Pv} {g : M (List Pd)} (hc : CallR X (.builtin id) r) (hs : CbK Γ r o) (hm : X.mg x = none) (ha : GPs Γ fx E X (e :: es) g) (hg : Gl X x := by rfl) (hv : bootBuiltins x = some (.builtin id) := by decide +kernel) (hn : x ≠ "__name__" := by decide) (hdb : (x == ("__debug__" : Str)) = false := by decide)
    (he : starEach (e :: es) X.env = (false, eval e X.env) :: starEach es X.env := by rfl) (hpl : (PySem.backTo pos (starEach es X.env)).any (·.1) = false := by rfl) : GE Γ fx E X (.Call (.Name x p) (e :: es) [] pos) (gBi o g) :=
  PE.weak (pe_callB hc hg hm hv ha hn hdb he hpl) fun σ H Q h => tCB_k hs h
theorem ge_ty {x : Str} {p : Pos} {T : String} {e : Expr} {es : List Expr} {r : List V → Hp → VK → Prop} {o : List D → Option Pv} {g : M (List Pd)} (hc : CallR X (.type T) r) (hs : CbK Γ r o) (hm : X.mg x = none) (ha : GPs Γ fx E X (e :: es) g) (hg : Gl X x := by rfl) (hv : bootBuiltins x = some (.type T) := by decide +kernel) (hn : x ≠ "__name__" := by decide) (hdb : (x == ("__debug__" : Str)) = false := by decide)
    (he : starEach (e :: es) X.env = (false, eval e X.env) :: starEach es X.env := by rfl) (hpl : (PySem.backTo pos (starEach es X.env)).any (·.1) = false := by rfl) : GE Γ fx E X (.Call (.Name x p) (e :: es) [] pos) (gBi o g) :=
  PE.weak (pe_callTy hc hg hm hv ha hn hdb he hpl) fun σ H Q h => tCB_k hs h
theorem Pks.one {F H : Hp} {d : D} {vs : List V} (h : Pks Γ F H [d] vs) : ∃ v, vs = [v] ∧ Pk Γ F H d v := by
  obtain ⟨v, u, rfl, h1, rfl⟩ := h; exact ⟨v, rfl, h1⟩
/-! len -/
noncomputable def oLen : List D → Option Pv
  | [.lst ds] => some (.dat (.int ds.length))
  | [.tup ds] => some (.dat (.int ds.length))
  | [.str x] => if x.length ≤ sizeLine then some (.dat (.int x.length)) else none
  | _ => none
theorem ok_len : CbK Γ (fun xs H Q => ∃ x n, xs = [x] ∧ LenV Γ.K x H n ∧ Q (.int n) H) oLen := fun fx S σ H F ds pv vs Q R e h k => by
  unfold oLen at e
  split at e
  · cases e
    obtain ⟨v, rfl, h1⟩ := h.one
    obtain ⟨a, us, rfl, hL, r⟩ := h1.list R.sub
    exact ⟨_, _, rfl, .inl ⟨us, SqL.of hL, rfl⟩, k _ H F (Ext.refl _) R (by rw [r.len]; rfl)⟩
  · cases e
    obtain ⟨v, rfl, h1⟩ := h.one
    obtain ⟨a, us, rfl, hL, r⟩ := h1.tup R.sub
    exact ⟨_, _, rfl, .inr ⟨us, R.sub.sqT hL, rfl⟩, k _ H F (Ext.refl _) R (by rw [r.len]; rfl)⟩
  · split at e
    · rename_i hl
      cases e
      obtain ⟨v, rfl, h1⟩ := h.one
      rw [h1.str]
      exact ⟨_, _, rfl, ⟨hl, rfl⟩, k _ H F (Ext.refl _) R rfl⟩
    · cases e
  · cases e
/-! int, str -/
noncomputable def oInt : List D → Option Pv
  | [.int i] => some (.dat (.int i))
  | [.bl b] => some (.dat (.int (if b then 1 else 0)))
  | _ => none
theorem ok_int : CbK Γ (fun xs H Q => (∃ i, xs = [V.int i] ∧ Q (.int i) H) ∨ ∃ k, xs = [V.bl k] ∧ Q (.int (if k then 1 else 0)) H) oInt := fun fx S σ H F ds pv vs Q R e h k => by
  unfold oInt at e
  split at e
  · cases e
    obtain ⟨v, rfl, h1⟩ := h.one
    rw [h1.int]
    exact .inl ⟨_, rfl, k _ H F (Ext.refl _) R rfl⟩
  · cases e
    obtain ⟨v, rfl, h1⟩ := h.one
    rw [h1.bl]
    exact .inr ⟨_, rfl, k _ H F (Ext.refl _) R rfl⟩
  · cases e
/-! list, tuple -/
noncomputable def oList : List D → Option Pv
  | [.lst ds] => some (.fr (.lst ds))
  | [.tup ds] => some (.fr (.lst ds))
  | _ => none
theorem ok_list : CbK Γ (fun xs H Q => ∃ p ys, xs = [V.ref p] ∧ (SqL Γ.K H p ys ∨ SqT Γ.K H p ys) ∧ ∀ l, H l = none → Q (.ref l) (upd H l (.lst ys))) oList := fun fx S σ H F ds pv vs Q R e h k => by
  unfold oList at e
  split at e
  · cases e
    obtain ⟨v, rfl, h1⟩ := h.one
    obtain ⟨a, us, rfl, hL, r⟩ := h1.list R.sub
    refine ⟨a, us, rfl, .inl (SqL.of hL), fun l hl => ?_⟩
    obtain ⟨R2, ok⟩ := new_list R r hl
    exact k _ _ F (Ext.refl _) R2 ok
  · cases e
    obtain ⟨v, rfl, h1⟩ := h.one
    obtain ⟨a, us, rfl, hL, r⟩ := h1.tup R.sub
    refine ⟨a, us, rfl, .inr (R.sub.sqT hL), fun l hl => ?_⟩
    obtain ⟨R2, ok⟩ := new_list R r hl
    exact k _ _ F (Ext.refl _) R2 ok
  · cases e
noncomputable def oTuple : List D → Option Pv
  | [.lst ds] => some (.dat (.tup ds))
  | [.tup ds] => some (.dat (.tup ds))
  | _ => none
theorem ok_tuple : CbK Γ (fun xs H Q => ∃ p ys, xs = [V.ref p] ∧ ((SqL Γ.K H p ys ∧ ∀ l, H l = none → Q (.ref l) (upd H l (.tup ys))) ∨ (SqT Γ.K H p ys ∧ Q (.ref p) H))) oTuple := fun fx S σ H F ds pv vs Q R e h k => by
  unfold oTuple at e
  split at e
  · cases e
    obtain ⟨v, rfl, h1⟩ := h.one
    obtain ⟨a, us, rfl, hL, r⟩ := h1.list R.sub
    refine ⟨a, us, rfl, .inl ⟨SqL.of hL, fun l hl => ?_⟩⟩
    obtain ⟨e2, R2⟩ := R.make (u := .tup us) hl
    exact k _ _ _ e2 R2 ⟨l, us, rfl, .inl (.inl upd_same), r.mono e2⟩
  · cases e
    obtain ⟨v, rfl, h1⟩ := h.one
    obtain ⟨a, us, rfl, hL, r⟩ := h1.tup R.sub
    exact ⟨a, us, rfl, .inr ⟨R.sub.sqT hL, k _ H F (Ext.refl _) R ⟨a, us, rfl, hL, r⟩⟩⟩
  · cases e
/-! min, max of two; of a list of ints -/
noncomputable def oMin2 : List D → Option Pv
  | [.int i, .int j] => some (.dat (.int (if j < i then j else i)))
  | _ => none
noncomputable def oMax2 : List D → Option Pv
  | [.int i, .int j] => some (.dat (.int (if j > i then j else i)))
  | _ => none
noncomputable def intsD : List D → Option (List Int)
  | [] => some []
  | .int i :: r => (intsD r).map (i :: ·)
  | _ :: _ => none
noncomputable def blsD : List D → Option (List Bool)
  | [] => some []
  | .bl i :: r => (blsD r).map (i :: ·)
  | _ :: _ => none
theorem blsD_rep {F : Hp} : ∀ {ds : List D} {vs : List V} {ns : List Bool}, blsD ds = some ns → Reps Γ F ds vs → vs = ns.map V.bl
  | [], vs, ns, e, r => by cases e; cases r; rfl
  | d :: ds, vs, ns, e, ⟨v, u, e0, h, t⟩ => by
    subst e0
    cases d with
    | bl i =>
      obtain ⟨ms, e1, rfl⟩ := map_some (show (blsD ds).map (i :: ·) = some ns from e)
      rw [blsD_rep e1 t, show v = .bl i from h]; rfl
    | _ => cases e
noncomputable def maxI : List Int → Int
  | [] => 0
  | [x] => x
  | x :: r => max x (maxI r)
noncomputable def minI : List Int → Int
  | [] => 0
  | [x] => x
  | x :: r => min x (minI r)
noncomputable def oMaxL : List D → Option Pv
  | [.lst ds] => match intsD ds with
    | some ns => if 0 < ns.length then some (.dat (.int (maxI ns))) else none
    | none => none
  | _ => none
noncomputable def oMinL : List D → Option Pv
  | [.lst ds] => match intsD ds with
    | some ns => if 0 < ns.length then some (.dat (.int (minI ns))) else none
    | none => none
  | _ => none
noncomputable def oAll : List D → Option Pv
  | [.lst ds] => (blsD ds).map fun bs => .dat (.bl (bs.all id))
  | _ => none
noncomputable def oAny : List D → Option Pv
  | [.lst ds] => (blsD ds).map fun bs => .dat (.bl (bs.any id))
  | _ => none
theorem ok_all : CbK Γ (rAll Γ.K) oAll := fun fx S σ H F ds pv vs Q R e h k => by
  unfold oAll at e
  split at e
  · obtain ⟨bs, e1, rfl⟩ := map_some e
    obtain ⟨v, rfl, h1⟩ := h.one
    obtain ⟨a, us, rfl, hL, r⟩ := h1.list R.sub
    have := blsD_rep e1 r
    subst this
    exact ⟨a, bs, rfl, SqL.of hL, k _ H F (Ext.refl _) R rfl⟩
  · cases e
/-! a written text as a number: str of a text -/

/-! ### slices -/
noncomputable abbrev TOd := Option (M Pd)
noncomputable def gPart : TOd → M (Option Int)
  | none => M.pure none
  | some g => M.bind g fun p => fun S => match drf S p with
    | some (.int i) => .ok (some i, S)
    | _ => .bad
noncomputable def tO (Γ : Gam) (fx : Fx) (E : WX) (g : M (Option Int)) : L2.St → Hp → (Option Int → Hp → Prop) → Prop := fun σ H Q => ∃ S F, Rel Γ fx S σ H F ∧ Post Γ fx E σ F (g S) fun p S' H' F' => Q p H'
noncomputable def GO (Γ : Gam) (fx : Fx) (E : WX) (X : Cx) (e : Option Expr) (g : M (Option Int)) : Prop := PO X e (tO Γ fx E g)
theorem PO.weak {e : Option Expr} {t t' : L2.St → Hp → (Option Int → Hp → Prop) → Prop} (h : PO X e t) (w : ∀ σ H Q, t' σ H Q → t σ H Q) : PO X e t' := ⟨fun pins s σ H Q I q => h.run pins s σ H Q I (w σ H Q q)⟩
theorem go_none : GO Γ fx E X none (gPart none) := PO.weak po_none fun σ H Q ⟨S, F, Rl, q⟩ => Post.pure q Rl
theorem go_some {e : Expr} {g : M Pd} (h : GP Γ fx E X e g) : GO Γ fx E X (some e) (gPart (some g)) := PO.weak (po_some h) fun σ H Q ⟨S, F, Rl, q⟩ => ⟨S, F, Rl, Post.imp (Post.bind q) fun p S1 H1 F1 e1 R1 q1 v r => by
  cases ea : drf S1 p with
  | none => simp only [ea] at q1; exact q1.elim
  | some d =>
    simp only [ea] at q1
    cases d with
    | int i => exact ⟨i, (r.pk R1 ea).int, q1 H1 F1 (Ext.refl _) R1⟩
    | _ => exact q1.elim⟩
noncomputable def oSlS (d : D) (lo hi : Option Int) : Option Pv := match d with
  | .str z => if z.length ≤ sizeLine then some (.dat (.str (cutS z lo hi))) else none
  | d => oSl d lo hi
noncomputable def rSlK (K : PySem.W.Frag) : V → Option Int → Option Int → Hp → VK → Prop := fun x lo hi H Q => (rSlL K x lo hi H Q ∨ rSlA K x lo hi H Q) ∨ rSlS x lo hi H Q
theorem sl_K : SlR X (rSlK X.K) := (sl_list.or sl_tupA).or sl_str
noncomputable def gSlice (ga : M Pd) (gl gh : M (Option Int)) : M Pv := M.bind ga fun a => M.bind gl fun lo => M.bind gh fun hi => fun S => match drf S a with
  | some d => M.lift (oSlS d lo hi) S
  | none => .bad
theorem ge_slice {e : Expr} {lo hi : Option Expr} {p2 : Pos} {ga : M Pd} {gl gh : M (Option Int)} (hk : Γ.K = X.K) (ha : GP Γ fx E X e ga) (hl : GO Γ fx E X lo gl) (hh : GO Γ fx E X hi gh) : GE Γ fx E X (.Subscript e (.Slice lo hi none p2) pos) (gSlice ga gl gh) :=
  PE.weak (pe_slice sl_K ha hl hh) fun σ H Q ⟨S, F, Rl, q⟩ => ⟨S, F, Rl, Post.imp (Post.bind q) fun p S1 H1 F1 e1 R1 q1 v r => ⟨S1, F1, R1, Post.imp (Post.bind q1) fun lo S2 H2 F2 e2 R2 q2 => ⟨S2, F2, R2, Post.imp (Post.bind q2) fun hi S3 H3 F3 e3 R3 q3 => by
    cases ea : drf S3 p with
    | none => simp only [ea] at q3; exact q3.elim
    | some d =>
      simp only [ea] at q3
      obtain ⟨pv, eo, k⟩ := Post.lift q3 R3
      have pk := (r.mono (e2.trans e3)).pk R3 ea
      rw [← hk]
      cases d with
      | str z =>
        simp only [oSlS] at eo
        split at eo
        · rename_i hz
          cases eo
          exact .inr ⟨z, pk.str, hz, k H3 F3 (Ext.refl _) R3 _ rfl⟩
        · cases eo
      | lst ds =>
        simp only [oSlS, oSl] at eo
        cases eo
        obtain ⟨a, vs, rfl, hL, r1⟩ := pk.list R3.sub
        refine .inl (.inl ⟨a, vs, rfl, SqL.of hL, fun l hl => ?_⟩)
        have r2 := (r1.drop (HT.sIx ds.length 0 lo)).take (HT.sIx ds.length ds.length hi - HT.sIx ds.length 0 lo)
        rw [show cutV vs lo hi = (vs.drop (HT.sIx ds.length 0 lo)).take (HT.sIx ds.length ds.length hi - HT.sIx ds.length 0 lo) by unfold cutV; rw [r1.len]]
        obtain ⟨R4, ok⟩ := new_list R3 r2 hl
        exact k _ F3 (Ext.refl _) R4 _ ok
      | scr ds =>
        simp only [oSlS, oSl] at eo
        cases eo
        obtain ⟨a, vs, rfl, hL, r1⟩ := pk.scr R3.sub
        refine .inl (.inl ⟨a, vs, rfl, hL, fun l hl => ?_⟩)
        have r2 := (r1.drop (HT.sIx ds.length 0 lo)).take (HT.sIx ds.length ds.length hi - HT.sIx ds.length 0 lo)
        rw [show cutV vs lo hi = (vs.drop (HT.sIx ds.length 0 lo)).take (HT.sIx ds.length ds.length hi - HT.sIx ds.length 0 lo) by unfold cutV; rw [r1.len]]
        obtain ⟨R4, ok⟩ := new_list R3 r2 hl
        exact k _ F3 (Ext.refl _) R4 _ ok
      | tup ds =>
        simp only [oSlS, oSl] at eo
        cases eo
        obtain ⟨a, vs, rfl, hL, r1⟩ := pk.tup R3.sub
        have r2 := (r1.drop (HT.sIx ds.length 0 lo)).take (HT.sIx ds.length ds.length hi - HT.sIx ds.length 0 lo)
        have ec : cutV vs lo hi = (vs.drop (HT.sIx ds.length 0 lo)).take (HT.sIx ds.length ds.length hi - HT.sIx ds.length 0 lo) := by unfold cutV; rw [r1.len]
        refine .inl (.inr ⟨a, vs, rfl, R3.sub.sqT hL, fun ⟨z1, z2⟩ => ?_, fun _ l hl => ?_⟩)
        · refine k H3 F3 (Ext.refl _) R3 _ ?_
          rw [← r1.len] at z1 z2
          rw [z1, z2, List.drop_zero, Nat.sub_zero, List.take_length]
          exact ⟨a, vs, rfl, hL, r1⟩
        · rw [ec]
          obtain ⟨e4, R4⟩ := R3.make (u := .tup ((vs.drop (HT.sIx ds.length 0 lo)).take (HT.sIx ds.length ds.length hi - HT.sIx ds.length 0 lo))) hl
          exact k _ _ e4 R4 _ ⟨l, _, rfl, .inl (.inl upd_same), r2.mono e4⟩
      | _ => simp only [oSlS, oSl] at eo; cases eo⟩⟩⟩
/-! ### the list of a slot, changed -/
/-- what a method does to the list, what it gives -/
noncomputable abbrev LM := List D → List D → Option (List D × D)
noncomputable def gMeth (i : Nat) (o : LM) (g : M (List D)) : M Pv := fun S => match S[i]? with
  | some (.own (.lst _) _) => M.bind g (fun args => fun S1 => match S1[i]? with
      | some (.own (.lst ds) b) => match o ds args with
        | some (ds', d) => .ok (.dat d, S1.set i (.own (.lst ds') b))
        | none => .bad
      | _ => .bad) S
  | _ => .bad
noncomputable def lmAppend : LM := fun ds args => match args with
  | [d] => if ds.length < sizeLine then some (ds ++ [d], .non) else none
  | _ => none
noncomputable def lmInsert : LM := fun ds args => match args with
  | [.int i, d] => if ds.length < sizeLine ∧ 0 ≤ i ∧ i < 2 ^ 63 then some (ds.take i.toNat ++ [d] ++ ds.drop i.toNat, .non) else none
  | _ => none
noncomputable def lmClear : LM := fun ds args => match args with
  | [] => some ([], .non)
  | _ => none
noncomputable def lmReverse : LM := fun ds args => match args with
  | [] => some (ds.reverse, .non)
  | _ => none
noncomputable def lmExtend : LM := fun ds args => match args with
  | [.lst es] => if ds.length + es.length ≤ sizeLine then some (ds ++ es, .non) else none
  | _ => none
/-! x[i] = e -/
noncomputable def bItem (i : Nat) (g : M Pd) : MT := fun d S => match S[i]? with
  | some (.own (.lst _) _) => (match g S with
    | .ok (p, S1) => match drf S1 p, S1[i]? with
      | some (.int k), some (.own (.lst ds) b) => match ixN ds.length k with
        | some j => .ok ((), S1.set i (.own (.lst (ds.set j d)) b))
        | none => .bad
      | _, _ => .bad
    | _ => .bad)
  | _ => .bad
theorem nox_item {i : Nat} {g : M Pd} : NoX (bItem i g) := fun d S x S' h => by
  unfold bItem at h
  split at h
  · split at h
    · split at h
      · split at h <;> cases h
      · cases h
    · cases h
  · cases h
theorem gg_item (i : Nat) {x : Str} {p : Pos} {e : Expr} {g : M Pd} (ha : GP Γ fx E X e g) (hN : X.N[i]? = some x := by rfl) (hv : Vis X.env.scope x := by first | exact Or.inl rfl | exact Or.inr (Or.inl rfl) | exact Or.inr (Or.inr rfl)) (hd : (x == ("__debug__" : Str)) = false := by decide) (hcd : (x == ("__classdict__" : Str)) = false := by decide)
    (has : ∀ v, assign (.Subscript (.Name x p) e pos) X.env v = (do
      let ov ← holding [v] (eval (.Name x p) X.env)
      let iv ← holding [v, ov] (eval e X.env)
      standAt pos
      holding [v, ov, iv] (setItem ov iv v)
      release [v, ov, iv] []) := by intro _; rfl) : GG Γ fx X (.Subscript (.Name x p) e pos) [] (bItem i g) :=
  PG.weak (pg_sub (pe_var hN hv hd hcd) ha set_list has) fun v σ H Q ⟨S, F, d, Rl, r, q⟩ => by
    unfold bItem at q
    cases e0 : S[i]? with
    | none => rw [e0] at q; exact q.elim
    | some sv =>
      rw [e0] at q
      cases sv with
      | no => exact q.elim
      | cb _ => exact q.elim
      | val d => exact q.elim
      | own ov b0 =>
        cases ov with
        | ins c fs ds => exact q.elim
        | dic ks vs => exact q.elim
        | lst ds0 =>
          obtain ⟨a, e1, _⟩ := Rl.own i _ _ e0
          refine ⟨_, e1, S, F, Rl, ?_⟩
          cases eg : g S with
          | bad => simp only [eg] at q; exact q.elim
          | exc y S' => simp only [eg] at q; exact q.elim
          | ok pr =>
            obtain ⟨pd, S1⟩ := pr
            simp only [eg] at q
            refine fun H1 F1 ex R1 iv rv => ?_
            cases ek : drf S1 pd with
            | none => simp only [ek] at q; exact q.elim
            | some dk =>
              cases dk with
              | int k =>
                cases eo : S1[i]? with
                | none => simp only [ek, eo] at q; exact q.elim
                | some sv =>
                  simp only [ek, eo] at q
                  cases sv with
                  | no => exact q.elim
                  | cb _ => exact q.elim
                  | val d => exact q.elim
                  | own ov b =>
                    cases ov with
                    | ins c fs ds => exact q.elim
                    | dic ks vs => exact q.elim
                    | lst ds =>
                      obtain ⟨a', e3, f1, ⟨vs, h1, r1⟩, _⟩ := R1.own i _ _ eo
                      rw [e1] at e3; cases e3
                      simp only [] at q
                      cases ej : ixN ds.length k with
                      | none => simp only [ej] at q; exact q.elim
                      | some j =>
                        simp only [ej] at q
                        exact ⟨a, vs, k, j, rfl, (rv.pk R1 ek).int, h1, by rw [← r1.len]; exact ej, q _ _ _ ex (R1.write eo e1 ⟨_, upd_same, r1.set j (r.mono ex)⟩) (Agree.refl _ _)⟩
              | _ => simp only [ek] at q; exact q.elim
end
end G
namespace G
open PySem PySem.Spec PyProof.Rows L2
/-! ### how the arguments of a call come to the parameters -/
end G
namespace G
open PySem PySem.Spec PyProof.Rows L2
/-! ### a call with n positional arguments and the keywords ks -/
noncomputable def FnA (P : Program) (w : World) (K : PySem.W.Frag) (mg : Str → Option Value) (base : Heap) (k : Nat) (f : Addr) (n : Nat) (ks : List Str) (sp : Sp) : Prop :=
  ∀ (A : Around) (outer : List PySem.Env) (s : Shared) (H : Hp) (us ws : List Value) (vs zs : List V) (Q : VK) (E : XK), Room k A → Env0 P w K mg base A outer s H → Vals vs us → Vals zs ws → us.length = n → ws.length = ks.length → sp (vs ++ zs) H Q E →
    codeAny (model P w) A (.call (.ref f) ⟨us, ks.zip ws⟩) (CR (CXg P w) outer P w H s Q E) s
theorem FnA.mono {P : Program} {w : World} {K : PySem.W.Frag} {mg : Str → Option Value} {base : Heap} {j k : Nat} {f : Addr} {n : Nat} {ks : List Str} {sp : Sp} (F : FnA P w K mg base j f n ks sp) (h : j ≤ k) : FnA P w K mg base k f n ks sp :=
  fun A outer s H us ws vs zs Q E hr => F A outer s H us ws vs zs Q E (hr.mono h)
section
variable {P : Program} {w : World} {Γ : Gam} {mg : Str → Option Value} {base : Heap}
/-- all arguments given, by position -/
theorem fnA_all {k n : Nat} {f : Addr} {fd : FuncData} {ps : List Str} {fn : Fn} (F : FnOk P w Γ.K mg base (CXg P w) k f fd ps (spG Γ ps.length fn)) (hb : Binds Γ.K fd ps []) (hn : ps.length = n) : FnA P w Γ.K mg base k f n [] (spG Γ n fn) := by
  intro A outer s H us ws vs zs Q E hr e0 r rz l1 l2 h
  have KX : Γ.K.In s.heap := e0.mod.kin.keeps fun b o e => (e0.bs b o e).1
  have ew : ws = [] := List.length_eq_zero_iff.mp l2
  subst ew
  cases rz
  rw [List.append_nil] at h
  have := hb s us KX (by rw [List.append_nil, l1, hn])
  rw [List.append_nil] at this
  exact F.run A outer s H ⟨us, []⟩ us vs Q E hr e0 this r (by rw [hn]; exact h)
/-! ### def f(a, .., *v) -/
end
end G
namespace G
open PySem PySem.Spec PyProof.Rows L2
section
variable {Γ : Gam} {fx : Fx} {E : WX} {X : Cx} {pos : Pos}
noncomputable abbrev XA (X : Cx) (k : Nat) (f : Addr) (n : Nat) (ks : List Str) (sp : Sp) : Prop := FnA X.prog X.w X.K X.mg X.base k f n ks sp
theorem run_fnA {k n : Nat} {f : Addr} {ks : List Str} {sp : Sp} {pins : List (Addr × Obj)} {σ : L2.St} {H : Hp} {s : Shared} {Q : VK} {us ws : List Value} {vs zs : List V} (F : XA X k f n ks sp) (hr : Room k X.A) (hx : PassW X E) (I : Inv X pins σ H s) (r : Vals vs us) (rz : Vals zs ws)
    (l1 : vs.length = n) (l2 : zs.length = ks.length) (h : sp (vs ++ zs) H Q (WE E σ)) : wpAny (model X.prog X.w) X.A (call (.ref f) us (ks.zip ws)) (EP X pins σ Q) X.xe s := by
  refine wpAny_call (codeAny_mono (F X.A X.stack s H us ws vs zs Q (WE E σ) hr I.env0 r rz (r.length.symm.trans l1) (rz.length.symm.trans l2) h) fun r s' hq => ?_)
  cases r with
  | error e => exact hx σ pins H s e s' I hq
  | ok fl =>
    cases fl with
    | ret u => exact I.after hq
    | next => exact False.elim hq
    | brk => exact False.elim hq
    | cont => exact False.elim hq
/-! keywords' values -/
noncomputable def GKW (Γ : Gam) (fx : Fx) (E : WX) (X : Cx) (kws : List Keyword) (g : M (List AK)) : Prop := PK X kws (tAK Γ fx E g)
theorem PK.weak {kws : List Keyword} {t t' : TA} (h : PK X kws t) (w : ∀ σ H Q, t' σ H Q → t σ H Q) : PK X kws t' := ⟨fun pos pins s σ H Q I q => h.run pos pins s σ H Q I (w σ H Q q)⟩
theorem gkw_nil : GKW Γ fx E X [] kNil := PK.weak pk_nil fun σ H Q ⟨S, F, Rl, q⟩ => Post.pure q Rl [] rfl
/-- the ends of a call's reading, by its value -/
theorem AKsOk.app {σ : L2.St} {F : Hp} : ∀ {a b : List AK} {vs us : List V}, AKsOk Γ σ F a vs → AKsOk Γ σ F b us → AKsOk Γ σ F (a ++ b) (vs ++ us)
  | [], _, _, _, h, g => by cases h; exact g
  | .v d :: r, _, _, _, ⟨v, u, e, h, t⟩, g => by subst e; exact ⟨v, _, rfl, h, AKsOk.app t g⟩
  | .s i :: r, _, _, _, ⟨v, u, e, h, t⟩, g => by subst e; exact ⟨v, _, rfl, h, AKsOk.app t g⟩
/-- n arguments, m keywords -/
noncomputable def callN (f : Fn) (n m : Nat) (a b : List AK) : M Pv := if a.length = n ∧ b.length = m then callK f [] (a ++ b) else M.bad
noncomputable def gCallA (f : Fn) (n m : Nat) (ga gb : M (List AK)) : M Pv := M.bind ga fun a => M.bind gb fun b => callN f n m a b
theorem ge_callA {mk : Nat} {k n : Nat} {f : Addr} {ks : List Str} {fn : Fn} {x : Str} {p : Pos} {e : Expr} {es : List Expr} {kws : List Keyword} {ga gb : M (List AK)} (F : XA X k f n ks (spG Γ (n + ks.length) fn)) (hr : Room k X.A) (hm : X.mg x = some (.ref f)) (hk : PySem.W.keepIn X.K (.ref f) = true)
    (hx : PassW X E) (ha : GAK Γ fx E X (e :: es) ga) (hb : GKW Γ fx E X kws gb) (hg : Gl X x := by rfl) (hall : (backToKw pos (keywordEach kws X.env)).all (·.1.isSome) = true := by rfl) (hks : (backToKw pos (keywordEach kws X.env)).filterMap (·.1) = ks := by rfl) (hdb : (x == ("__debug__" : Str)) = false := by decide)
    (he : starEach (e :: es) X.env = (false, eval e X.env) :: starEach es X.env := by rfl) (hpl : ((PySem.backTo pos (starEach (e :: es) X.env)).any (·.1) || (backToKw pos (keywordEach kws X.env)).any (·.1.isNone)) = false := by rfl) (hml : mk = ks.length := by rfl) :
    GE Γ fx E X (.Call (.Name x p) (e :: es) kws pos) (gCallA fn n mk ga gb) := by
  subst hml
  refine ⟨fun pins s σ H Q I h => ?_⟩
  obtain ⟨S, F0, Rl, q⟩ := h
  refine wpAny_Call_Name_kw (ld_glob I hg hm ?_ hdb)
  refine PySem.W.callWith_KW (h₀ := X.base) I.ok.mod.kin hk hall (thn (ha.run pos pins s σ H _ I ⟨S, F0, Rl, Post.imp (Post.bind q) fun a S1 H1 F1 e1 R1 q1 vs ka => (⟨S1, F1, R1, Post.imp (Post.bind q1) fun b S2 H2 F2 e2 R2 q2 zs kb => (?_ : vs.length = n ∧ zs.length = ks.length ∧ spG Γ (n + ks.length) fn (vs ++ zs) H2 Q (WE E σ))⟩ : tAK Γ fx E gb σ H1 fun zs H2 => vs.length = n ∧ zs.length = ks.length ∧ spG Γ (n + ks.length) fn (vs ++ zs) H2 Q (WE E σ))⟩) fun us s1 ⟨vs, H1, I1, r, q⟩ => ?_) hpl he
  · unfold callN at q2
    split at q2
    · rename_i hl
      have ka2 := AKsOk.mono e2 ka
      refine ⟨by rw [← ka.get.1]; exact hl.1, by rw [← kb.get.1]; exact hl.2, ?_⟩
      have z := call_core (f := fn) (n := n + ks.length) (dds := []) (dvs := []) R2 (ka2.app kb) rfl (by rw [List.length_append, hl.1, hl.2]; rfl) (Post.want q2)
      rw [List.append_nil] at z
      exact z
    · exact q2.elim
  · refine thn (hb.run pos pins s1 σ H1 _ I1 q) fun ws s2 ⟨zs, H2, I2, rz, l1, l2, q2⟩ => ⟨I2.kIn, ?_⟩
    rw [hks]
    exact run_fnA F hr hx I2 r rz l1 l2 q2
/-! ### making an instance -/
/-- the new instance stands in a slot of its own for the time of its __init__ -/
noncomputable def gMake (c : Nat) (f : Fn) (n m : Nat) (ga gb : M (List AK)) : M Pv := M.bind ga fun a => M.bind gb fun b => fun S =>
  if a.length = n ∧ b.length = m then match callK f [] (.s S.length :: (a ++ b)) (S ++ [.own (.ins c [] []) false]) with
    | .ok (.dat .non, S') => match S'[S.length]? with
      | some (.own o false) => .ok (.fr o, S'.take S.length)
      | _ => .bad
    | .ok _ => .bad
    | .exc x S' => .exc x (S'.take S.length)
    | .bad => .bad
  else .bad
theorem Rel.push {S : Slots} {σ : L2.St} {H F : Hp} {o : Ov} {a : Addr} (R : Rel Γ fx S σ H F) (hF : F a = none) (ho : OwnAt Γ F H o a) (hT : fx.T a = none) (hn : fx.H a = none) (ha : ∀ (j : Nat) (o' : Ov) (b : Bool), S[j]? = some (.own o' b) → σ[j]? ≠ some (some (.ref a))) :
    Rel Γ fx (S ++ [.own o false]) (σ ++ [some (.ref a)]) H F := by
  have g : ∀ {j : Nat} {sv : Sv}, (S ++ [.own o false])[j]? = some sv → (j < S.length ∧ S[j]? = some sv) ∨ (j = S.length ∧ sv = .own o false) := fun {j sv} e => by
    by_cases hj : j < S.length
    · rw [List.getElem?_append_left hj] at e; exact .inl ⟨hj, e⟩
    · have hl := (List.getElem?_eq_some_iff.mp e).1
      rw [List.length_append] at hl
      have : j = S.length := by have : j < S.length + 1 := hl; omega
      subst this
      rw [List.getElem?_append_right (Nat.le_refl _), Nat.sub_self] at e
      cases e
      exact .inr ⟨rfl, rfl⟩
  have gs : ∀ {j : Nat}, j < S.length → (σ ++ [some (V.ref a)])[j]? = σ[j]? := fun {j} hj => List.getElem?_append_left (by rw [← R.len]; exact hj)
  have gl : (σ ++ [some (V.ref a)])[S.length]? = some (some (.ref a)) := by rw [R.len, List.getElem?_append_right (Nat.le_refl _), Nat.sub_self]; rfl
  exact {
    bg := R.bg
    cb := fun j f e => by
      rcases g e with ⟨hj, p⟩ | ⟨_, p⟩
      · rw [gs hj]; exact R.cb j f p
      · cases p
    tnx := R.tnx
    fnx := R.fnx
    len := by rw [List.length_append, List.length_append, R.len]; rfl
    val := fun j d e => by
      rcases g e with ⟨hj, p⟩ | ⟨_, p⟩
      · rw [gs hj]; exact R.val j d p
      · cases p
    own := fun j o' b e => by
      rcases g e with ⟨hj, p⟩ | ⟨q, p⟩
      · rw [gs hj]; exact R.own j o' b p
      · rw [q]; cases p; exact ⟨a, gl, hF, ho, hT, hn⟩
    inj := fun i j o1 o2 b1 b2 c e1 e2 e3 e4 => by
      rcases g e1 with ⟨hi, p1⟩ | ⟨q1, p1⟩
      · rw [gs hi] at e3
        rcases g e2 with ⟨hj, p2⟩ | ⟨q2, p2⟩
        · rw [gs hj] at e4; exact R.inj i j o1 o2 b1 b2 c p1 p2 e3 e4
        · rw [q2, gl] at e4; cases e4; exact absurd e3 (ha i o1 b1 p1)
      · rw [q1, gl] at e3; cases e3
        rcases g e2 with ⟨hj, p2⟩ | ⟨q2, p2⟩
        · rw [gs hj] at e4; exact absurd e4 (ha j o2 b2 p2)
        · rw [q1, q2]
    sub := R.sub
    sub0 := R.sub0
    new := R.new
    frm := R.frm
    wth := R.wth
    tmp := R.tmp }
theorem Rel.pop {S : Slots} {σ : L2.St} {x : Option V} {H F : Hp} (R : Rel Γ fx S (σ ++ [x]) H F) : Rel Γ fx (S.take σ.length) σ H F := by
  have hl : S.length = σ.length + 1 := by rw [R.len, List.length_append]; rfl
  have g : ∀ {j : Nat} {sv : Sv}, (S.take σ.length)[j]? = some sv → j < σ.length ∧ S[j]? = some sv := fun {j sv} e => by
    have hj := (List.getElem?_eq_some_iff.mp e).1
    rw [List.length_take] at hj
    have hj' : j < σ.length := by omega
    rw [List.getElem?_take_of_lt hj'] at e
    exact ⟨hj', e⟩
  have gs : ∀ {j : Nat}, j < σ.length → (σ ++ [x])[j]? = σ[j]? := fun {j} hj => List.getElem?_append_left hj
  exact {
    bg := R.bg
    cb := fun j f e => by obtain ⟨hj, e⟩ := g e; rw [← gs hj]; exact R.cb j f e
    tnx := R.tnx
    fnx := R.fnx
    len := by rw [List.length_take]; omega
    val := fun j d e => by obtain ⟨hj, e⟩ := g e; rw [← gs hj]; exact R.val j d e
    own := fun j o b e => by obtain ⟨hj, e⟩ := g e; rw [← gs hj]; exact R.own j o b e
    inj := fun i j o1 o2 b1 b2 c e1 e2 e3 e4 => by
      obtain ⟨hi, e1⟩ := g e1
      obtain ⟨hj, e2⟩ := g e2
      rw [← gs hi] at e3
      rw [← gs hj] at e4
      exact R.inj i j o1 o2 b1 b2 c e1 e2 e3 e4
    sub := R.sub
    sub0 := R.sub0
    new := R.new
    frm := R.frm
    wth := R.wth
    tmp := R.tmp }
theorem AKsOk.push {σ : L2.St} {x : Option V} {F : Hp} : ∀ {a : List AK} {vs : List V}, AKsOk Γ σ F a vs → AKsOk Γ (σ ++ [x]) F a vs
  | [], _, h => h
  | .v d :: r, _, ⟨v, u, e, h, t⟩ => ⟨v, u, e, h, AKsOk.push t⟩
  | .s i :: r, _, ⟨v, u, e, h, t⟩ => ⟨v, u, e, by rw [List.getElem?_append_left (List.getElem?_eq_some_iff.mp h).1]; exact h, AKsOk.push t⟩
theorem make_core {c : Nat} {f : Fn} {n : Nat} {aks : List AK} {vs : List V} {S : Slots} {σ : L2.St} {H F : Hp} {Q : VK} (R : Rel Γ fx S σ H F) (hk : AKsOk Γ σ F aks vs) (hlen : aks.length + 1 = n)
    (q : Want Γ fx σ F Q E (match callK f [] (.s S.length :: aks) (S ++ [.own (.ins c [] []) false]) with
      | .ok (.dat .non, S') => match S'[S.length]? with
        | some (.own o false) => .ok (.fr o, S'.take S.length)
        | _ => .bad
      | .ok _ => .bad
      | .exc x S' => .exc x (S'.take S.length)
      | .bad => .bad)) :
    ∀ x dx, H x = none → H dx = none → dx ≠ x → spG Γ n f (.ref x :: vs) (upd (upd H dx (.own x)) x (.ins (Γ.cl c) dx [])) (fun v H2 => v = .non ∧ Q (.ref x) H2) (WE E σ) := by
  intro x dx hx hdx hne
  obtain ⟨f1, f2, f3, f4⟩ := R.fresh hx
  have hx2 : upd H dx (.own x) x = none := by rw [upd_ne (Ne.symm hne)]; exact hx
  have R2 : Rel Γ fx S σ (upd (upd H dx (.own x)) x (.ins (Γ.cl c) dx [])) F := (R.lay hdx).lay hx2
  have hno : ∀ (j : Nat) (o' : Ov) (b : Bool), S[j]? = some (.own o' b) → σ[j]? ≠ some (some (.ref x)) := fun j o' b e w => R.ownNe e w hx rfl
  have R3 := R2.push (o := .ins c [] []) f1 ⟨dx, [], upd_same, rfl, rfl⟩ f4 f2 hno
  have lS : S.length = σ.length := R.len
  have k2 : AKsOk Γ (σ ++ [some (V.ref x)]) F (.s S.length :: aks) (.ref x :: vs) := ⟨.ref x, vs, rfl, by rw [lS, List.getElem?_append_right (Nat.le_refl _), Nat.sub_self]; rfl, hk.push⟩
  have := call_core (f := f) (n := n) (dds := []) (dvs := []) (E := upW (WE E σ)) (Q := fun v H2 => v = .non ∧ Q (.ref x) H2) R3 k2 rfl (by rw [List.length_cons]; exact hlen) ?_
  · rw [List.append_nil] at this; exact this
  · cases ec : callK f [] (.s S.length :: aks) (S ++ [.own (.ins c [] []) false]) with
    | bad => rw [ec] at q; exact q
    | exc y S' =>
      rw [ec] at q
      refine fun cls d H' F' e' R' xr => q cls d H' F' e' ?_ xr
      rw [lS]
      exact R'.pop
    | ok p =>
      obtain ⟨pv, S'⟩ := p
      rw [ec] at q
      cases pv with
      | sl i => exact q.elim
      | fr o => exact q.elim
      | dat d =>
        cases d with
        | non =>
          simp only [] at q
          cases e4 : S'[S.length]? with
          | none => simp only [e4] at q; exact q.elim
          | some sv =>
            simp only [e4] at q
            cases sv with
            | no => exact q.elim
            | cb _ => exact q.elim
            | val d => exact q.elim
            | own o b =>
              cases b with
              | true => exact q.elim
              | false =>
                refine fun v H' F' e' R' ok => ⟨ok, ?_⟩
                obtain ⟨a, g1, g2, g3, g4, g5⟩ := R'.own _ _ _ e4
                rw [lS, List.getElem?_append_right (Nat.le_refl _), Nat.sub_self] at g1
                cases g1
                have R4 := R'.pop
                rw [← lS] at R4
                refine q (.ref x) H' F' e' R4 ⟨x, rfl, g2, g3, g4, g5, fun j o' b' e w => ?_⟩
                have hj : j < S.length := by
                  have := (List.getElem?_eq_some_iff.mp e).1
                  rw [List.length_take] at this
                  omega
                rw [List.getElem?_take_of_lt hj] at e
                have := R'.inj j S.length _ _ _ _ x e e4 (by rw [List.getElem?_append_left (by rw [← lS]; exact hj)]; exact w) (by rw [lS, List.getElem?_append_right (Nat.le_refl _), Nat.sub_self]; rfl)
                omega
        | _ => exact q.elim
theorem run_makeA {k n : Nat} {f C : Addr} {ks : List Str} {sp : Sp} {pins : List (Addr × Obj)} {σ : L2.St} {H : Hp} {s : Shared} {Q : VK} {us ws : List Value} {vs zs : List V} (M : Mk X.K C f) (F : XA X k f (n + 1) ks sp) (hr : Room (k + 1) X.A) (hx : PassW X E)
    (I : Inv X pins σ H s) (r : Vals vs us) (rz : Vals zs ws) (l1 : vs.length = n) (l2 : zs.length = ks.length)
    (h : ∀ x dx, H x = none → H dx = none → dx ≠ x → sp (.ref x :: (vs ++ zs)) (upd (upd H dx (.own x)) x (.ins C dx [])) (fun v H2 => v = .non ∧ Q (.ref x) H2) (WE E σ)) :
    wpAny (model X.prog X.w) X.A (call (.ref C) us (ks.zip ws)) (EP X pins σ Q) X.xe s := by
  have hq := h (s.heap.objs.size + 1) s.heap.objs.size (I.hok.fresh (Nat.le_succ _)) (I.hok.fresh (Nat.le_refl _)) (Nat.ne_of_lt (Nat.lt_succ_self _))
  have I2 := Inv.made (C := C) I
  have r1 : Vals (V.ref (s.heap.objs.size + 1) :: vs) (Value.ref (s.heap.objs.size + 1) :: us) := .cons rfl r
  have n1 : (Value.ref (s.heap.objs.size + 1) :: us).length = n + 1 := by
    rw [List.length_cons, ← r.length, l1]
  refine wpAny_call (make_map (f := f) I.kIn M.makes M.init (beq_iff_eq.mp M.fn) (codeAny_mono (F _ X.stack _ _ (Value.ref (s.heap.objs.size + 1) :: us) ws _ zs _ (WE E σ) (hr.make C us (ks.zip ws))
    (I2.env0.make C us (ks.zip ws)) r1 rz n1 (rz.length.symm.trans l2) hq) fun r s' hq' => ?_))
  cases r with
  | error e => exact hx σ pins _ _ e s' I2 hq'
  | ok fl =>
    cases fl with
    | ret u =>
      obtain ⟨v, H', I3, rv, ev, q3⟩ := I2.after hq'
      subst ev
      exact ⟨rv, ⟨V.ref (s.heap.objs.size + 1), H', I3, rfl, q3⟩⟩
    | next => exact False.elim hq'
    | brk => exact False.elim hq'
    | cont => exact False.elim hq'
theorem ge_makeA {mk : Nat} {k n : Nat} {f : Addr} {c : Nat} {ks : List Str} {fn : Fn} {x : Str} {p : Pos} {e : Expr} {es : List Expr} {kws : List Keyword} {ga gb : M (List AK)} (MK : Mk X.K (Γ.cl c) f) (F : XA X k f (n + 1) ks (spG Γ (n + 1 + ks.length) fn)) (hr : Room (k + 1) X.A) (hm : X.mg x = some (.ref (Γ.cl c)))
    (hx : PassW X E) (ha : GAK Γ fx E X (e :: es) ga) (hb : GKW Γ fx E X kws gb) (hg : Gl X x := by rfl) (hall : (backToKw pos (keywordEach kws X.env)).all (·.1.isSome) = true := by rfl) (hks : (backToKw pos (keywordEach kws X.env)).filterMap (·.1) = ks := by rfl) (hdb : (x == ("__debug__" : Str)) = false := by decide)
    (he : starEach (e :: es) X.env = (false, eval e X.env) :: starEach es X.env := by rfl) (hpl : ((PySem.backTo pos (starEach (e :: es) X.env)).any (·.1) || (backToKw pos (keywordEach kws X.env)).any (·.1.isNone)) = false := by rfl) (hml : mk = ks.length := by rfl) :
    GE Γ fx E X (.Call (.Name x p) (e :: es) kws pos) (gMake c fn n mk ga gb) := by
  subst hml
  refine ⟨fun pins s σ H Q I h => ?_⟩
  obtain ⟨S, F0, Rl, q⟩ := h
  refine wpAny_Call_Name_kw (ld_glob I hg hm ?_ hdb)
  refine PySem.W.callWith_KW (h₀ := X.base) I.ok.mod.kin MK.kp hall (thn (ha.run pos pins s σ H _ I ⟨S, F0, Rl, Post.imp (Post.bind q) fun a S1 H1 F1 e1 R1 q1 vs ka => (⟨S1, F1, R1, Post.imp (Post.bind q1) fun b S2 H2 F2 e2 R2 q2 zs kb => (?_ : vs.length = n ∧ zs.length = ks.length ∧ ∀ x dx, H2 x = none → H2 dx = none → dx ≠ x → spG Γ (n + 1 + ks.length) fn (.ref x :: (vs ++ zs)) (upd (upd H2 dx (.own x)) x (.ins (Γ.cl c) dx [])) (fun v H2 => v = .non ∧ Q (.ref x) H2) (WE E σ))⟩ :
      tAK Γ fx E gb σ H1 fun zs H2 => vs.length = n ∧ zs.length = ks.length ∧ ∀ x dx, H2 x = none → H2 dx = none → dx ≠ x → spG Γ (n + 1 + ks.length) fn (.ref x :: (vs ++ zs)) (upd (upd H2 dx (.own x)) x (.ins (Γ.cl c) dx [])) (fun v H2 => v = .non ∧ Q (.ref x) H2) (WE E σ))⟩) fun us s1 ⟨vs, H1, I1, r, q⟩ => ?_) hpl he
  · split at q2
    · rename_i hl
      have ka2 := AKsOk.mono e2 ka
      refine ⟨by rw [← ka.get.1]; exact hl.1, by rw [← kb.get.1]; exact hl.2, ?_⟩
      exact make_core (f := fn) (n := n + 1 + ks.length) R2 (ka2.app kb) (by rw [List.length_append, hl.1, hl.2]; omega) (Post.want q2)
    · exact q2.elim
  · refine thn (hb.run pos pins s1 σ H1 _ I1 q) fun ws s2 ⟨zs, H2, I2, rz, l1, l2, q2⟩ => ⟨I2.kIn, ?_⟩
    rw [hks]
    exact run_makeA MK F hr hx I2 r rz l1 l2 q2
end
end G
namespace G
open PySem PySem.Spec PyProof.Rows L2
section
variable {Γ : Gam} {fx : Fx} {E : WX} {X : Cx} {pos : Pos}
/-! ### what is never reached -/
/-! ### isinstance with built-in types -/
inductive Ty where
  | non | bl | int | str | tup | lst | dic
deriving DecidableEq
noncomputable def Ty.name : Ty → String
  | .non => "NoneType"
  | .bl => "bool"
  | .int => "int"
  | .str => "str"
  | .tup => "tuple"
  | .lst => "list"
  | .dic => "dict"
noncomputable def Ty.is (a b : Ty) : Bool := decide (a = b) || (decide (a = .bl) && decide (b = .int))
noncomputable def tyD : D → Option Ty
  | .non => some .non
  | .bl _ => some .bl
  | .int _ => some .int
  | .str _ => some .str
  | .tup _ => some .tup
  | .lst _ => some .lst
  | .scr _ => some .lst
  | _ => none
theorem kit_is (a b : Ty) : kitB a.name b.name = some (a.is b) := by cases a <;> cases b <;> decide +kernel
theorem sqT_ty {K : PySem.W.Frag} {H : Hp} {a : Addr} {xs : List V} (h : SqT K H a xs) : TyX K H (.ref a) (.type "tuple") := by
  rcases h with (h | ⟨o, h⟩) | ⟨o, its, n, h, c, _⟩
  · exact .base (.tup h)
  · exact .fTuple h
  · exact .kTuple h c
theorem tyx_of {F H : Hp} {d : D} {v : V} {t : Ty} (ex : Ext F H) (h : Pk Γ F H d v) (e : tyD d = some t) : TyX Γ.K H v (.type t.name) := by
  cases d with
  | non => cases e; rw [h.non]; exact .base .non
  | bl b => cases e; rw [h.bl]; exact .base (.bl b)
  | int b => cases e; rw [h.int]; exact .base (.int b)
  | str b => cases e; rw [h.str]; exact .base (.str b)
  | tup ds =>
    cases e
    obtain ⟨a, vs, rfl, hT, _⟩ := h.tup ex
    exact sqT_ty (ex.sqT hT)
  | lst ds =>
    cases e
    obtain ⟨a, vs, rfl, hT, _⟩ := h.list ex
    exact .base (.lst hT)
  | scr ds =>
    cases e
    obtain ⟨a, vs, rfl, hT, _⟩ := h.scr ex
    rcases hT with (z | ⟨o, z⟩) | ⟨o, its, n, z, c, _⟩
    · exact .base (.lst z)
    · exact .base (.frz z)
    · exact .kList z c
  | _ => cases e
theorem kitAny_is {K : PySem.W.Frag} {t : Ty} : ∀ (us : List Ty), PySem.W.kitAny K (.type t.name) (us.map fun u => Value.type u.name) = some (us.any fun u => t.is u)
  | [] => rfl
  | u :: r => by
    refine kitAny_cons (b := t.is u) (kit_ty (kit_is t u)) (fun h => ?_) fun h => ?_
    · rw [kitAny_is r, List.any_cons, h, Bool.false_or]
    · rw [List.any_cons, h, Bool.true_or]
noncomputable def gIsi (us : List Ty) (g : M Pd) : M D := M.bind g fun p S => match drf S p with
  | some d => match tyD d with
    | some t => .ok (.bl (us.any fun u => t.is u), S)
    | none => .bad
  | none => .bad
theorem gv_isi {tn : Str} {e : Expr} {p p2 : Pos} {g : M Pd} (u : Ty) (hk : Γ.K = X.K) (hm : X.mg "isinstance" = none) (hm2 : X.mg tn = none) (hv2 : bootBuiltins tn = some (.type u.name)) (ha : GP Γ fx E X e g) (hg : Gl X "isinstance" := by rfl) (hg2 : Gl X tn := by rfl)
    (hn2 : tn ≠ "__name__" := by decide) (hd2 : (tn == ("__debug__" : Str)) = false := by decide) (h1 : starEach [e, .Name tn p2] X.env = (false, eval e X.env) :: starEach [.Name tn p2] X.env := by rfl) (h2 : starEach [.Name tn p2] X.env = (false, eval (.Name tn p2) X.env) :: starEach [] X.env := by rfl)
    (hpl : (PySem.backTo pos (starEach [.Name tn p2] X.env)).any (·.1) = false := by rfl) : GV Γ fx E X (.Call (.Name "isinstance" p) [e, .Name tn p2] [] pos) (gIsi [u] g) :=
  PE.weak (pe_callB call_isi hg hm PyProof.Rows.boot_isinstance (pa_cons ha (pa_cons (pe_bltn (v := .ty u.name) hg2 hm2 hv2 rfl hn2 hd2) pa_nil h2) h1) (by decide) (by decide) h1 hpl) fun σ H Q ⟨S, F, Rl, q⟩ => ⟨S, F, Rl, Post.imp (Post.bind q) fun pd S1 H1 F1 e1 R1 q1 v r => by
    cases ea : drf S1 pd with
    | none => simp only [ea] at q1; exact q1.elim
    | some d =>
      cases et : tyD d with
      | none => simp only [ea, et] at q1; exact q1.elim
      | some t =>
        simp only [ea, et] at q1
        refine ⟨v, .ty u.name, .type t.name, .type u.name, t.is u, rfl, .ty _, ?_, kit_ty (kit_is t u), ?_⟩
        · rw [← hk]; exact tyx_of R1.sub (r.pk R1 ea) et
        · have := q1 H1 F1 (Ext.refl _) R1 _ rfl
          rw [List.any_cons, List.any_nil, Bool.or_false] at this
          exact this⟩
/-- names of built-in types -/
noncomputable def tTys (us : List Ty) : TA := fun _ H Q => Q (us.map fun u => V.ty u.name) H
theorem pt_nil : PA X [] (tTys []) := pa_nil
theorem pt_cons {tn : Str} {p : Pos} {es : List Expr} {us : List Ty} (u : Ty) (hm2 : X.mg tn = none) (hv2 : bootBuiltins tn = some (.type u.name)) (h : PA X es (tTys us)) (hg2 : Gl X tn := by rfl) (hn2 : tn ≠ "__name__" := by decide) (hd2 : (tn == ("__debug__" : Str)) = false := by decide)
    (h1 : starEach (.Name tn p :: es) X.env = (false, eval (.Name tn p) X.env) :: starEach es X.env := by rfl) : PA X (.Name tn p :: es) (tTys (u :: us)) :=
  PA.weak (pa_cons (pe_bltn (v := .ty u.name) hg2 hm2 hv2 rfl hn2 hd2) h h1) fun σ H Q q => q
theorem paired_tys : ∀ (us : List Ty), Paired ClsV (us.map fun u => V.ty u.name) (us.map fun u => Value.type u.name)
  | [] => .nil
  | u :: r => .cons (.ty _) (paired_tys r)
theorem gv_isiT {es : List Expr} {k : Nat} {e : Expr} {p tp : Pos} {g : M Pd} (us : List Ty) (hk : Γ.K = X.K) (hm : X.mg "isinstance" = none) (ha : GP Γ fx E X e g) (ht : PA X es (tTys us)) (hlen : us.length ≤ sizeLine := by decide) (hg : Gl X "isinstance" := by rfl)
    (h1 : starEach [e, .Tuple es k tp] X.env = (false, eval e X.env) :: starEach [.Tuple es k tp] X.env := by rfl) (h2 : starEach [.Tuple es k tp] X.env = (false, eval (.Tuple es k tp) X.env) :: starEach [] X.env := by rfl)
    (hpl : (PySem.backTo pos (starEach [.Tuple es k tp] X.env)).any (·.1) = false := by rfl) : GV Γ fx E X (.Call (.Name "isinstance" p) [e, .Tuple es k tp] [] pos) (gIsi us g) :=
  PE.weak (pe_callB call_isiT hg hm PyProof.Rows.boot_isinstance (pa_cons ha (pa_cons (pe_tup ht) pa_nil h2) h1) (by decide) (by decide) h1 hpl) fun σ H Q ⟨S, F, Rl, q⟩ => ⟨S, F, Rl, Post.imp (Post.bind q) fun pd S1 H1 F1 e1 R1 q1 v r => by
    refine ⟨by rw [List.length_map]; exact hlen, fun l hl => ?_⟩
    have R2 := R1.lay (u := .tup (us.map fun u => V.ty u.name)) hl
    cases ea : drf S1 pd with
    | none => simp only [ea] at q1; exact q1.elim
    | some d =>
      cases et : tyD d with
      | none => simp only [ea, et] at q1; exact q1.elim
      | some t =>
        simp only [ea, et] at q1
        refine ⟨v, l, us.map fun u => V.ty u.name, .type t.name, us.map fun u => Value.type u.name, _, rfl, upd_same, paired_tys us, ?_, kitAny_is us, q1 _ F1 (Ext.refl _) R2 _ rfl⟩
        rw [← hk]; exact tyx_of R2.sub (r.pk R2 ea) et⟩
/-! ### a class's constants -/
/-! ### chained comparisons -/
noncomputable def gChain (o o' : D → D → Option Pv) (ga gb gc : M Pd) : M D := M.bind ga fun a => M.bind gb fun b S => match drf S a, drf S b with
  | some x, some y => match o x y with
    | some (.dat (.bl true)) => M.bind gc (fun c S2 => match drf S2 b, drf S2 c with
      | some y', some z => match o' y' z with
        | some (.dat (.bl k)) => .ok (.bl k, S2)
        | _ => .bad
      | _, _ => .bad) S
    | some (.dat (.bl false)) => .ok (.bl false, S)
    | _ => .bad
  | _, _ => .bad
/-! ### an instance's fields -/
noncomputable def fldD (f : Str) : List Str → List D → Option D
  | n :: ns, d :: ds => if f = n then some d else fldD f ns ds
  | _, _ => none
theorem fld_of {f : Str} : ∀ {fs : List Str} {ds : List D} {l : List (Str × V)} {d : D} {F : Hp}, l.map (·.1) = fs → Reps Γ F ds (l.map (·.2)) → fldD f fs ds = some d → ∃ v, l.lookup f = some v ∧ Rep Γ F d v
  | _, [], _, _, _, e, r, q => by cases e; rename_i l _ _; cases l <;> cases q
  | _, d :: ds, [], _, _, e, r, q => by cases e; cases q
  | _, d :: ds, (n, w) :: l, d', F, e, r, q => by
    cases e
    obtain ⟨v, us, e1, h1, h2⟩ := r
    cases e1
    have q' : (if f = n then some d else fldD f (l.map (·.1)) ds) = some d' := q
    rw [List.lookup_cons]
    by_cases z : f = n
    · rw [if_pos z] at q'
      cases q'
      subst z
      rw [beq_self_eq_true]
      exact ⟨_, rfl, h1⟩
    · rw [if_neg z] at q'
      rw [beq_false_of_ne z]
      exact fld_of rfl h2 q'
noncomputable def putN (f : Str) : List Str → List Str
  | n :: ns => if n = f then n :: ns else n :: putN f ns
  | [] => [f]
noncomputable def putD (f : Str) (d : D) : List Str → List D → List D
  | n :: ns, e :: ds => if n = f then d :: ds else e :: putD f d ns ds
  | _, _ => [d]
theorem put_of {f : Str} {d : D} {v : V} {F : Hp} (h : Rep Γ F d v) : ∀ {fs : List Str} {ds : List D} {l : List (Str × V)}, l.map (·.1) = fs → Reps Γ F ds (l.map (·.2)) → (putF f v l).map (·.1) = putN f fs ∧ Reps Γ F (putD f d fs ds) ((putF f v l).map (·.2))
  | _, [], [], e, r => by cases e; exact ⟨rfl, v, [], rfl, h, rfl⟩
  | _, [], _ :: _, e, r => by cases r
  | _, _ :: _, [], e, r => by obtain ⟨_, _, e1, _⟩ := r; cases e1
  | _, d' :: ds, (n, w) :: l, e, r => by
    cases e
    obtain ⟨v', us, e1, h1, h2⟩ := r
    cases e1
    by_cases z : n = f
    · have a1 : putF f v ((n, w) :: l) = (n, v) :: l := by simp [putF, z]
      have a2 : putN f (((n, w) :: l).map (·.1)) = n :: l.map (·.1) := if_pos z
      have a3 : putD f d (((n, w) :: l).map (·.1)) (d' :: ds) = d :: ds := if_pos z
      rw [a1, a2, a3]
      exact ⟨rfl, v, _, rfl, h, h2⟩
    · have a1 : putF f v ((n, w) :: l) = (n, w) :: putF f v l := by simp [putF, z]
      have a2 : putN f (((n, w) :: l).map (·.1)) = n :: putN f (l.map (·.1)) := if_neg z
      have a3 : putD f d (((n, w) :: l).map (·.1)) (d' :: ds) = d' :: putD f d (l.map (·.1)) ds := if_neg z
      rw [a1, a2, a3]
      obtain ⟨b1, b2⟩ := put_of h (ds := ds) (l := l) rfl h2
      exact ⟨by rw [List.map_cons, b1], _, _, rfl, h1, b2⟩
noncomputable def gFld (c : Nat) (f : Str) (g : M Pd) : M D := M.bind g fun p S => match drf S p with
  | some (.ins c' fs ds) => if c' = c then match fldD f fs ds with
    | some d => .ok (d, S)
    | none => .bad
    else .bad
  | _ => .bad
theorem gv_fld {c : Nat} {e : Expr} {f : Str} {g : M Pd} (hk : Γ.K = X.K) (cl : Cls X.K (Γ.cl c)) (na : NoAttr X.K (Γ.cl c) f) (h : GP Γ fx E X e g) (hb : attributeBase e f X.env (eval e X.env) = eval e X.env := by rfl) : GV Γ fx E X (.Attribute e f pos) (gFld c f g) :=
  PE.weak (pe_fld h hb) fun σ H Q ⟨S, F, Rl, q⟩ => ⟨S, F, Rl, Post.imp (Post.bind q) fun pd S1 H1 F1 e1 R1 q1 v r => by
    cases ea : drf S1 pd with
    | none => simp only [ea] at q1; exact q1.elim
    | some d =>
      simp only [ea] at q1
      cases d with
      | ins c' fs ds =>
        simp only [] at q1
        split at q1
        · rename_i hc
          subst hc
          cases ef : fldD f fs ds with
          | none => simp only [ef] at q1; exact q1.elim
          | some d' =>
            simp only [ef] at q1
            obtain ⟨a, dx, l, rfl, h1, e2, rr⟩ := (r.pk R1 ea).ins R1.sub
            obtain ⟨y, l1, ry⟩ := fld_of e2 rr ef
            exact ⟨a, _, dx, l, y, rfl, h1, cl, na, l1, q1 H1 F1 (Ext.refl _) R1 _ ry⟩
        · exact q1.elim
      | _ => exact q1.elim⟩
/-- self.f = e -/
noncomputable def gSetF (i c : Nat) (f : Str) (g : M D) : M Fl := M.bind g fun d S => match S[i]? with
  | some (.own (.ins c' fs ds) b) => if c' = c ∧ fs.length < 1000 then .ok (.nx, S.set i (.own (.ins c (putN f fs) (putD f d fs ds)) b)) else .bad
  | _ => .bad
theorem gs_setF {i c : Nat} {x f : Str} {value : Expr} {g : M D} {p pos' : Pos} (hk : Γ.K = X.K) (cl : Cls X.K (Γ.cl c)) (na : NoAttr X.K (Γ.cl c) f) (h : GV Γ fx E X value g) (hN : X.N[i]? = some x := by rfl) (hv : Vis X.env.scope x := by first | exact Or.inl rfl | exact Or.inr (Or.inl rfl) | exact Or.inr (Or.inr rfl)) (hd : (x == ("__debug__" : Str)) = false := by decide)
    (hcd : (x == ("__classdict__" : Str)) = false := by decide) (hs : swapsWith value (some (.Attribute (.Name x p) f pos')) pos.line X.env = pure false := by rfl) : GS Γ fx E X (.Assign [.Attribute (.Name x p) f pos'] value pos) (gSetF i c f g) :=
  PS.weak (ps_fld (pe_var hN hv hd hcd) h hs) fun D σ H ⟨S, F, Rl, q⟩ => ⟨S, F, Rl, Post.imp (PostS.expr q) fun d S1 H1 F1 e1 R1 q1 v r => by
    cases e0 : S1[i]? with
    | none => simp only [e0] at q1; exact q1.elim
    | some sv =>
      simp only [e0] at q1
      cases sv with
      | no => exact q1.elim
      | cb _ => exact q1.elim
      | val d => exact q1.elim
      | own ov b =>
        cases ov with
        | lst ds => exact q1.elim
        | dic ks vs => exact q1.elim
        | ins c' fs ds =>
          simp only [] at q1
          split at q1
          · rename_i hc
            obtain ⟨rfl, hl⟩ := hc
            obtain ⟨a, e2, _, ⟨dx, l, h1, e3, rr⟩, _⟩ := R1.own i _ _ e0
            obtain ⟨b1, b2⟩ := put_of (f := f) r e3 rr
            refine ⟨_, e2, a, _, dx, l, rfl, h1, cl, na, by rw [← e3, List.length_map] at hl; exact hl, ?_⟩
            exact q1 _ _ F1 (Ext.refl _) (R1.write e0 e2 ⟨dx, _, upd_same, b1, b2⟩)
          · exact q1.elim⟩
/-! ### tuple(range(..)) -/
noncomputable def rgSmall (i j : Int) : Bool := inR i && inR j && decide ((j - i).toNat ≤ 2 ^ 24)
noncomputable def gTupRg (ga : M D) : M D := M.bind ga fun d => match asI d with
  | some j => if rgSmall 0 j then M.pure (.tup (rangeD 0 j)) else M.bad
  | none => M.bad
/-! ### list.index -/
noncomputable def lmIndex : LM := fun ds args => match args with
  | [d] => match pyDs ds, pyD d with
    | some qs, some p => if SeqAt.shaped (.list qs) && SeqAt.shaped p then (qs.findIdx? fun z => PyData.eqv z p).map fun j => (ds, .int (j : Nat)) else none
    | _, _ => none
  | _ => none
end
end G
namespace G
open PySem PySem.Spec PyProof.Rows L2
section
variable {Γ : Gam} {fx : Fx} {E : WX} {X : Cx} {pos : Pos}
/-! ### f(k = e, ..) -/
/-! ### methods -/
noncomputable def akOf : Pd → AK
  | .d d => .v d
  | .sl i => .s i
theorem akOf_ok {σ : L2.St} {F : Hp} {p : Pd} {v : V} {aks : List AK} {vs : List V} (h : PdOk Γ σ F p v) (t : AKsOk Γ σ F aks vs) : AKsOk Γ σ F (akOf p :: aks) (v :: vs) := by
  cases p with
  | d d => exact ⟨v, vs, rfl, h, t⟩
  | sl i => exact ⟨v, vs, rfl, h, t⟩
noncomputable def isIns (c : Nat) (m : Str) : D → Bool
  | .ins c' fs _ => decide (c' = c) && !fs.contains m
  | _ => false
/-- o.m(..): m is the def fn -/
noncomputable def gMethA (c : Nat) (m : Str) (fn : Fn) (n mks : Nat) (gp : M Pd) (ga gb : M (List AK)) : M Pv := M.bind gp fun p S => match drf S p with
  | some d => if isIns c m d then M.bind ga (fun a => M.bind gb fun b => callN fn (n + 1) mks (akOf p :: a) b) S else .bad
  | none => .bad
theorem isIns_of {c : Nat} {m : Str} {d : D} {F H : Hp} {v : V} (e : Ext F H) (q : isIns c m d = true) (h : Pk Γ F H d v) : ∃ a dx l, v = .ref a ∧ H a = some (.ins (Γ.cl c) dx l) ∧ l.lookup m = none := by
  cases d with
  | ins c' fs ds =>
    unfold isIns at q
    rw [Bool.and_eq_true] at q
    obtain rfl := of_decide_eq_true q.1
    obtain ⟨a, dx, l, rfl, h1, e2, _⟩ := h.ins e
    refine ⟨a, dx, l, rfl, h1, ?_⟩
    have hn : ¬ m ∈ fs := by have := q.2; simpa using this
    rw [← e2] at hn
    rw [List.lookup_eq_none_iff]
    intro p hp
    have : p.1 ≠ m := fun z => hn (List.mem_map.mpr ⟨p, hp, z⟩)
    simpa using fun z => this z.symm
  | _ => cases q
theorem ge_methA0 {mk : Nat} {c : Nat} {m : Str} {k : Nat} {g : Addr} {ks : List Str} {fn : Fn} {apos : Pos} {o : Expr} {kws : List Keyword} {gp : M Pd} {gb : M (List AK)} {pl : Sem Bool} (F : XA X k g 1 ks (spG Γ (1 + ks.length) fn)) (hr : Room k X.A) (cl : Cls X.K (Γ.cl c)) (hm : Meth X.K (Γ.cl c) m g)
    (hx : PassW X E) (ho : GP Γ fx E X o gp) (hb : GKW Γ fx E X kws gb) (hall : (backToKw pos (keywordEach kws X.env)).all (·.1.isSome) = true := by rfl) (hks : (backToKw pos (keywordEach kws X.env)).filterMap (·.1) = ks := by rfl)
    (hpl : ((PySem.backTo pos (starEach [] X.env)).any (·.1) || (backToKw pos (keywordEach kws X.env)).any (·.1.isNone)) = false := by rfl)
    (ht : eval (.Call (.Attribute o m apos) [] kws pos) X.env = (do
      let ov ← eval o X.env
      standAt apos.atName
      let (f, first) ← holding [ov] (getMethod ov m pl)
      callWith pos f first (PySem.backTo pos (starEach [] X.env)) (backToKw pos (keywordEach kws X.env))) := by rfl) (hml : mk = ks.length := by rfl) :
    GE Γ fx E X (.Call (.Attribute o m apos) [] kws pos) (gMethA c m fn 0 mk gp kNil gb) := by
  subst hml
  refine ⟨fun pins s σ H Q I h => ?_⟩
  obtain ⟨S, F0, Rl, q⟩ := h
  refine PySem.W.methodCall_KW (pl := pl) (thn (ho.run pins s σ H (fun x H1 => ∃ a dx l, x = .ref a ∧ H1 a = some (.ins (Γ.cl c) dx l) ∧ l.lookup m = none ∧
    tAK Γ fx E gb σ H1 fun zs H2 => zs.length = ks.length ∧ spG Γ (1 + ks.length) fn (.ref a :: zs) H2 Q (WE E σ)) I ⟨S, F0, Rl, Post.imp (Post.bind q) fun pd S0 H0 F0' e0 R0 q0 v r => ?_⟩) fun u s1 ⟨x, H1, I1, rx, a, dx, fs, ex, ea, l, q⟩ => ?_) ht
  · cases ed : drf S0 pd with
    | none => simp only [ed] at q0; exact q0.elim
    | some d =>
      simp only [ed] at q0
      split at q0
      · rename_i hi
        obtain ⟨a, dx, l, rfl, h1, h2⟩ := isIns_of R0.sub hi (r.pk R0 ed)
        have q1 := Post.pure (Post.bind q0) R0
        refine ⟨a, dx, l, rfl, h1, h2, S0, F0', R0, Post.imp (Post.bind q1) fun b S2 H2 F2 e2 R2 q2 zs kb => ?_⟩
        unfold callN at q2
        split at q2
        · rename_i hl
          refine ⟨by rw [← kb.get.1]; exact hl.2, ?_⟩
          have z := call_core (f := fn) (n := 1 + ks.length) (dds := []) (dvs := []) R2 (akOf_ok (r.mono e2) kb) rfl (by rw [List.length_cons, hl.2]; simp; omega) (Post.want q2)
          rw [List.append_nil] at z
          exact z
        · exact q2.elim
      · exact q0.elim
  · subst ex
    obtain rfl : u = Value.ref a := rx
    refine getmeth_ok I1 ea cl hm l ?_
    refine PySem.W.callWith_KW0 (first := [.ref a]) (h₀ := X.base) I.ok.mod.kin hm.kp hall (thn (hb.run pos pins s1 σ H1 _ I1 q) fun ws s3 ⟨zs, H3, I3, rz, l2, q3⟩ => ⟨I3.kIn, ?_⟩) hpl
    rw [hks]
    exact run_fnA (us := [.ref a]) (vs := [.ref a]) F hr hx I3 (.cons rfl .nil) rz rfl l2 q3
/-! ### a property, read -/
noncomputable def noX {α : Type} : R α → R α
  | .exc _ _ => .bad
  | r => r
noncomputable def gProp (c : Nat) (fn : Fn) (g : M Pd) : M Pv := M.bind g fun p S => match drf S p with
  | some (.ins c' _ _) => if c' = c then noX (callK fn [] [akOf p] S) else .bad
  | _ => .bad
/-! ### C.m(..), m a staticmethod -/
end
end G
namespace G
open PySem PySem.Spec PyProof.Rows L2
/-! enumerate(v), v a list or a tuple -/
section
variable {Γ : Gam} {fx : Fx} {E : WX} {X : Cx} {pos : Pos}
noncomputable def enumD : Nat → List D → List D
  | _, [] => []
  | n, d :: r => .tup [.int n, d] :: enumD (n + 1) r
noncomputable def gEnum (g : M D) : M (List D) := M.bind g fun d => M.lift ((seqD d).map (enumD 0))
end
end G
namespace G
open PySem PySem.Spec PyProof.Rows L2
/-! ### what a def's context gives -/
section
variable {P : Program} {w : World} {K : PySem.W.Frag} {mg : Str → Option Value} {base : Heap} {N : List Str} {qual : Str} {scope : Scope} {f : Addr} {cdv : Value} {A : Around} {outer : List PySem.Env} {s : Shared} {H : Hp} {E : XK}
theorem pas : PassW (cxOf (CXg P w) P w K mg base N qual scope f cdv A outer s H E) (upW E) := passW (takes_of rfl rfl rfl rfl)
theorem pasN {X : Cx} : PassW X E0 := passW0
theorem own : PassesOwn (model P w) (cxOf (CXg P w) P w K mg base N qual scope f cdv A outer s H E).A (cxOf (CXg P w) P w K mg base N qual scope f cdv A outer s H E).env (cxOf (CXg P w) P w K mg base N qual scope f cdv A outer s H E).xe := passes_of rfl
end
/-! ### defaults -/
section
variable {P : Program} {w : World} {Γ : Gam} {mg : Str → Option Value} {base : Heap}
/-- a def's code object -/
noncomputable def codeV (K : PySem.W.Frag) (f : Addr) : Value := match K.lookup f with
  | some ⟨_, _, .func fd, _⟩ => fd.code
  | _ => .none
/-- THE RULE of a def, whatever its defaults -/
theorem gfunD {x qual : Str} {params : Arguments} {body : List Stmt} {scope : Scope} {dvs : List V} {kws : List (Str × V)} {f : Addr} {fd : FuncData} {N ps : List Str} {k : Nat} {g : M Fl} (F : FunD Γ.K x qual params body scope dvs kws f fd) (S : FnScope N ps scope)
    (hb : ∀ (cdv : Value) (A : Around) (outer : List PySem.Env) (s : Shared) (H : Hp) (E : XK) (fx : Fx), cdv = codeV Γ.K f → Room k (A.deeper (envOfC qual scope s.heap.objs.size f cdv)) →
      GSs Γ fx (upW E) (cxOf (CXg P w) P w Γ.K mg base N qual scope f cdv A outer s H E) body g) : FnOk P w Γ.K mg base (CXg P w) (k + 1) f fd ps (spG Γ ps.length (defFn N.length g)) := by
  obtain ⟨oc, od, dV, kV, doc, pm, an, cdv, ct, osl, rfl, lk, hcd, _, _⟩ := F.ex
  refine fn_of lk hcd S spG.len fun A outer s H vs Q E hr ⟨as, F0, Ar, hn, q⟩ => ?_
  obtain ⟨C, hC⟩ := Ar.cbx
  refine ⟨_, hb cdv A outer s H E (fx0 as vs H F0 C) (by unfold codeV; rw [lk]) hr, slots0 N.length as, F0, rel0 Ar hC ?_, defFn_end Ar q⟩
  have h1 := congrArg List.length S.pre
  rw [List.length_take] at h1
  rw [← Ar.len, hn]
  omega
/-! ### def f(a, .., *v, k = d) -/
end
end G
namespace G
open PySem PySem.Spec PyProof.Rows L2
open He (Fa eqO eqO_ok ba ga ma frG frG_in)
/-! ### the head: facts read by a Hook -/
/-- what may be given away -/
noncomputable def nxH (H : Hp) : Hp := fun b => match H b with
  | some (.tbl _) => none
  | some (.ext _) => none
  | x => x
theorem nxH_in {H : Hp} {a : Addr} {o : HO} (h : H a = some o) (n1 : ∀ ps, o ≠ .tbl ps) (n2 : ∀ φ, o ≠ .ext φ) : nxH H a = some o := by
  unfold nxH
  rw [h]
  cases o with
  | tbl ps => exact absurd rfl (n1 ps)
  | ext φ => exact absurd rfl (n2 φ)
  | _ => rfl
theorem nxH_out {H : Hp} {a : Addr} {o : HO} (h : nxH H a = some o) : H a = some o ∧ NX o := by
  unfold nxH at h
  split at h
  · cases h
  · cases h
  · rename_i h1 h2
    exact ⟨h, fun ps e => h1 ps (by rw [h, e]), fun φ _ e => h2 φ (by rw [h, e])⟩
/-- the law's argument -/
theorem sp_law {Γ : Gam} {fn : Fn} {H : Hp} {a : Addr} {ns : List Int} {as' : List Rv} (hT : LamX.Tabs Γ.T H) (hS : SqL Γ.K H a (ns.map V.int)) (h : fn [.val (.scr (ns.map .int))] = .ok (.val (.bl true)) as') : spG Γ 1 fn [.ref a] H (fun v _ => v = .bl true) fun _ _ _ => False := by
  have hS2 : SqL Γ.K (nxH H) a (ns.map V.int) := by
    rcases hS with (h1 | ⟨o, h1⟩) | h1
    · exact .inl (.inl (nxH_in h1 nx_lst.1 fun _ e => HO.noConfusion e))
    · exact .inl (.inr ⟨o, nxH_in h1 nx_frz.1 fun _ e => HO.noConfusion e⟩)
    · exact .inr h1
  refine ⟨[.val (.scr (ns.map .int))], nxH H, ⟨⟨fun _ => none, ⟨fun a o e => (nomatch e), hT, fun a ps e => ⟨#[], by rw [e]; simp⟩⟩, fun i f e => by cases i <;> simp at e⟩, fun a o e => (nxH_out e).2, rfl, fun a o e => (nxH_out e).1, fun i d e => ?_, fun i o e => ?_, fun i j c q => ?_⟩, rfl, ?_⟩
  · cases i with
    | zero =>
      cases e
      refine ⟨_, rfl, a, _, rfl, hS2, ?_⟩
      clear hS2 hS h
      induction ns with
      | nil => rfl
      | cons x r ih => exact ⟨_, _, rfl, rfl, ih⟩
    | succ i => simp at e
  · cases i <;> simp at e
  · obtain ⟨o, e, _⟩ := q
    cases i <;> simp at e
  · rw [h]
    exact fun v H' F' _ ok => ok
end G
namespace G
open PySem PySem.Spec PyProof.Rows L2
section
variable {Γ : Gam} {fx : Fx} {E : WX} {X : Cx} {pos : Pos}
/-! a, b = x, y with plain local names -/
noncomputable def setVals : List Nat → List D → Slots → Slots
  | i :: is, d :: ds, S => setVals is ds (S.set i (.val d))
  | _, _, S => S
noncomputable def gPar (ix : List Nat) (g : M (List D)) : M Fl := M.bind g fun ds S => if ds.length = ix.length then .ok (.nx, setVals ix ds S) else .bad
/-! a tuple of the module -/
noncomputable def dV : D → V
  | .bl b => .bl b
  | .int i => .int i
  | .str x => .str x
  | _ => .non
end
end G
namespace G
open PySem
/-! ### what a mirror comes to -/
noncomputable def W {α : Type} (g : M α) (S : Slots) (K : α → Slots → Prop) : Prop := match g S with
  | .ok (a, S') => K a S'
  | _ => False
noncomputable def WF (r : FR) (K : Rv → List Rv → Prop) : Prop := match r with
  | .ok r as => K r as
  | _ => False
noncomputable def WL {α : Type} (o : Option α) (K : α → Prop) : Prop := match o with
  | some a => K a
  | none => False
section
variable {α β : Type} {S : Slots} {i n m : Nat} {d : D} {pv : Pv}
theorem W.mono {g : M α} {K K' : α → Slots → Prop} (h : W g S K) (k : ∀ a S', K a S' → K' a S') : W g S K' := by
  have h' : (match g S with | .ok (a, S') => K a S' | _ => False) := h
  show (match g S with | .ok (a, S') => K' a S' | _ => False)
  cases e : g S with
  | ok p => rw [e] at h'; exact k _ _ h'
  | exc x S' => rw [e] at h'; exact h'
  | bad => rw [e] at h'; exact h'
theorem WF.mono {r : FR} {K K' : Rv → List Rv → Prop} (h : WF r K) (k : ∀ a S', K a S' → K' a S') : WF r K' := by
  unfold WF at h ⊢
  split at h
  · exact k _ _ h
  · exact h.elim
theorem WF.ok {r : FR} {K : Rv → List Rv → Prop} (h : WF r K) : ∃ v as, r = .ok v as ∧ K v as := by
  unfold WF at h
  split at h
  · exact ⟨_, _, rfl, h⟩
  · exact h.elim
theorem WL_some {a : α} {K : α → Prop} : WL (some a) K = K a := id rfl
theorem WL_map {o : Option α} {f : α → β} {K : β → Prop} : WL (o.map f) K = WL o fun a => K (f a) := by cases o <;> rfl
theorem W_pure {a : α} {K : α → Slots → Prop} : W (M.pure a) S K = K a S := id rfl
theorem W_bad {K : α → Slots → Prop} : W M.bad S K = False := id rfl
theorem W_bind {g : M α} {f : α → M β} {K : β → Slots → Prop} : W (M.bind g f) S K = W g S fun a S' => W (f a) S' K := by
  unfold W M.bind
  cases g S with
  | ok p => rfl
  | exc x S' => rfl
  | bad => rfl
theorem W_lift {o : Option α} {K : α → Slots → Prop} : W (M.lift o) S K = WL o fun a => K a S := by cases o <;> rfl
theorem W_gD {K : D → Slots → Prop} : W (gD d) S K = K d S := id rfl
theorem W_pD {g : M D} {K : Pd → Slots → Prop} : W (pD g) S K = W g S fun d S' => K (.d d) S' := by unfold pD; rw [W_bind]; rfl
theorem W_toV {g : M Pv} {K : D → Slots → Prop} : W (toV g) S K = W g S fun pv S' => W (Pv.give pv) S' K := by unfold toV; rw [W_bind]
theorem W_giveD {K : D → Slots → Prop} : W (Pv.give (.dat d)) S K = K d S := id rfl
theorem W_gOp {o : D → D → Option Pv} {ga gb : M Pd} {K : Pv → Slots → Prop} : W (gOp o ga gb) S K = W ga S fun a S1 => W gb S1 fun b S2 => WL (drf S2 a) fun x => WL (drf S2 b) fun y => WL (o x y) fun pv => K pv S2 := by
  unfold gOp
  rw [W_bind]
  congr 1; funext a S1
  rw [W_bind]
  congr 1; funext b S2
  unfold W
  cases h1 : drf S2 a with
  | none => simp only [h1]; rfl
  | some x => cases h2 : drf S2 b with
    | none => simp only [h1, h2]; rfl
    | some y => simp only [h1, h2]; exact W_lift
theorem W_gB {g : M D} {K : Bool → Slots → Prop} : W (gB g) S K = W g S fun d S' => WL (asB d) fun b => K b S' := by
  unfold gB
  rw [W_bind]
  congr 1; funext d S'
  exact W_lift
theorem W_gNot {g : M Bool} {K : Bool → Slots → Prop} : W (gNot g) S K = W g S fun b S' => K (!b) S' := by unfold gNot; rw [W_bind]; rfl
theorem W_ite {b : Bool} {g1 g2 : M α} {K : α → Slots → Prop} : W (if b = true then g1 else g2) S K = ((b = true → W g1 S K) ∧ (b = false → W g2 S K)) := by cases b <;> simp
theorem W_gAnd {ga gb : M Bool} {K : Bool → Slots → Prop} : W (gAnd ga gb) S K = W ga S fun a S' => (a = true → W gb S' K) ∧ (a = false → K false S') := by
  unfold gAnd; rw [W_bind]; congr 1; funext a S'; exact W_ite
theorem W_gOr {ga gb : M Bool} {K : Bool → Slots → Prop} : W (gOr ga gb) S K = W ga S fun a S' => (a = true → K true S') ∧ (a = false → W gb S' K) := by
  unfold gOr; rw [W_bind]; congr 1; funext a S'; exact W_ite
theorem W_gIf {gc : M Bool} {ga gb : M Pv} {K : Pv → Slots → Prop} : W (gIf gc ga gb) S K = W gc S fun a S' => (a = true → W ga S' K) ∧ (a = false → W gb S' K) := by
  unfold gIf; rw [W_bind]; congr 1; funext a S'; exact W_ite
theorem W_gIfS {gc : M Bool} {ga gb : M Fl} {K : Fl → Slots → Prop} : W (gIfS gc ga gb) S K = W gc S fun a S' => (a = true → W ga S' K) ∧ (a = false → W gb S' K) := by
  unfold gIfS; rw [W_bind]; congr 1; funext a S'; exact W_ite
theorem W_gAndV {ga gb : M D} {K : D → Slots → Prop} : W (gAndV ga gb) S K = W ga S fun d S' => WL (asB d) fun a => (a = true → W gb S' K) ∧ (a = false → K (.bl false) S') := by
  unfold gAndV; rw [W_bind]; congr 1; funext d S'; rw [W_bind, W_lift]; congr 1; funext a; exact W_ite
theorem W_gOrV {ga gb : M D} {K : D → Slots → Prop} : W (gOrV ga gb) S K = W ga S fun d S' => WL (asB d) fun a => (a = true → K (.bl true) S') ∧ (a = false → W gb S' K) := by
  unfold gOrV; rw [W_bind]; congr 1; funext d S'; rw [W_bind, W_lift]; congr 1; funext a; exact W_ite
theorem W_gNotV {ga : M D} {K : D → Slots → Prop} : W (gNotV ga) S K = W ga S fun d S' => WL (asB d) fun a => K (.bl (!a)) S' := by
  unfold gNotV; rw [W_bind]; congr 1; funext d S'; rw [W_bind, W_lift]; rfl
theorem W_gNil {K : List D → Slots → Prop} : W gNil S K = K [] S := id rfl
theorem W_gCons {ga : M D} {gr : M (List D)} {K : List D → Slots → Prop} : W (gCons ga gr) S K = W ga S fun d S1 => W gr S1 fun r S2 => K (d :: r) S2 := by
  unfold gCons; rw [W_bind]; congr 1; funext d S1; rw [W_bind]; rfl
theorem W_gTup {g : M (List D)} {K : D → Slots → Prop} : W (gTup g) S K = W g S fun ds S1 => ds.length ≤ sizeLine ∧ K (.tup ds) S1 := by
  unfold gTup; rw [W_bind]; congr 1; funext ds S1
  by_cases h : ds.length ≤ sizeLine
  · rw [if_pos h, W_pure]; simp [h]
  · rw [if_neg h, W_bad]; simp [h]
theorem W_gLst {g : M (List D)} {K : Pv → Slots → Prop} : W (gLst g) S K = W g S fun ds S1 => ds.length ≤ sizeLine ∧ K (.fr (.lst ds)) S1 := by
  unfold gLst; rw [W_bind]; congr 1; funext ds S1
  by_cases h : ds.length ≤ sizeLine
  · rw [if_pos h, W_pure]; simp [h]
  · rw [if_neg h, W_bad]; simp [h]
theorem W_qNil {K : List Pd → Slots → Prop} : W qNil S K = K [] S := id rfl
theorem W_qCons {ga : M Pd} {gr : M (List Pd)} {K : List Pd → Slots → Prop} : W (qCons ga gr) S K = W ga S fun d S1 => W gr S1 fun r S2 => K (d :: r) S2 := by
  unfold qCons; rw [W_bind]; congr 1; funext d S1; rw [W_bind]; rfl
theorem W_gBi {o : List D → Option Pv} {g : M (List Pd)} {K : Pv → Slots → Prop} : W (gBi o g) S K = W g S fun ps S1 => WL (drfs S1 ps) fun ds => WL (o ds) fun pv => K pv S1 := by
  unfold gBi; rw [W_bind]; congr 1; funext ps S1
  unfold W
  cases h : drfs S1 ps with
  | none => simp only [h]; rfl
  | some ds => simp only [h]; exact W_lift
theorem W_kNil {K : List AK → Slots → Prop} : W kNil S K = K [] S := id rfl
theorem W_kV {ga : M D} {gr : M (List AK)} {K : List AK → Slots → Prop} : W (kV ga gr) S K = W ga S fun d S1 => W gr S1 fun r S2 => K (.v d :: r) S2 := by
  unfold kV; rw [W_bind]; congr 1; funext d S1; rw [W_bind]; rfl
theorem W_kSO {o : Ov} {b : Bool} {gr : M (List AK)} {K : List AK → Slots → Prop} (h : S[i]? = some (.own o b)) : W (kS i gr) S K = W gr S fun r S2 => K (.s i :: r) S2 := by
  have e : W (kS i gr) S K = W (M.bind gr fun r => M.pure (AK.s i :: r)) S K := by unfold W kS; simp only [h]
  rw [e, W_bind]; rfl
theorem W_kSV {gr : M (List AK)} {K : List AK → Slots → Prop} (h : S[i]? = some (.val d)) : W (kS i gr) S K = W gr S fun r S2 => K (.s i :: r) S2 := by
  have e : W (kS i gr) S K = W (M.bind gr fun r => M.pure (AK.s i :: r)) S K := by unfold W kS; simp only [h]
  rw [e, W_bind]; rfl
theorem W_kSC {f : CF} {gr : M (List AK)} {K : List AK → Slots → Prop} (h : S[i]? = some (.cb f)) : W (kS i gr) S K = W gr S fun r S2 => K (.s i :: r) S2 := by
  have e : W (kS i gr) S K = W (M.bind gr fun r => M.pure (AK.s i :: r)) S K := by unfold W kS; simp only [h]
  rw [e, W_bind]; rfl
theorem W_callK {f : Fn} {aks : List AK} {K : Pv → Slots → Prop} : W (callK f [] aks) S K = WL (asOfs S aks) fun as => nodupB (slotsIn aks) = true ∧ WF (f as) fun r as' => K (rvPv r) (putBack S aks as') := by
  unfold W callK
  cases e : asOfs S aks with
  | none => simp only [e]; rfl
  | some as =>
    simp only [e]
    by_cases h : nodupB (slotsIn aks) = true
    · simp only [h, if_true, List.map_nil, List.append_nil]
      show _ = (True ∧ WF (f as) _)
      rw [true_and]
      unfold WF
      cases f as <;> rfl
    · rw [if_neg h]
      exact (eq_false fun q => h q.1).symm
theorem W_callN {f : Fn} {a b : List AK} {K : Pv → Slots → Prop} : W (callN f n m a b) S K = (a.length = n ∧ b.length = m ∧ W (callK f [] (a ++ b)) S K) := by
  unfold callN
  by_cases h : a.length = n ∧ b.length = m
  · rw [if_pos h]; simp [h.1, h.2]
  · rw [if_neg h, W_bad]
    exact (eq_false fun q => h ⟨q.1, q.2.1⟩).symm
theorem W_gCallA {f : Fn} {ga gb : M (List AK)} {K : Pv → Slots → Prop} : W (gCallA f n m ga gb) S K = W ga S fun a S1 => W gb S1 fun b S2 => W (callN f n m a b) S2 K := by
  unfold gCallA; rw [W_bind]; congr 1; funext d S1; rw [W_bind]
theorem W_gSeq {g1 g2 : M Fl} {K : Fl → Slots → Prop} : W (gSeq g1 g2) S K = W g1 S fun fl S' => W (seqk g2 fl) S' K := by unfold gSeq; rw [W_bind]
theorem W_gExpr {g : M Pv} {K : Fl → Slots → Prop} : W (gExpr g) S K = W g S fun _ S' => K .nx S' := by unfold gExpr; rw [W_bind]; rfl
theorem W_gRet {g : M Pv} {K : Fl → Slots → Prop} : W (gRet g) S K = W g S fun pv S' => K (.rt pv) S' := by unfold gRet; rw [W_bind]; rfl
theorem W_gSet {g : M Pv} {K : Fl → Slots → Prop} : W (gSet i g) S K = W g S fun pv S' => W (putPv i pv) S' K := by unfold gSet; rw [W_bind]
theorem W_gAsg {g : M D} {b : MT} {K : Fl → Slots → Prop} : W (gAsg g b) S K = W g S fun d S' => W (b d) S' fun _ S2 => K .nx S2 := by
  unfold gAsg; rw [W_bind]; congr 1; funext d S1; rw [W_bind]; rfl
theorem W_gPar {ix : List Nat} {g : M (List D)} {K : Fl → Slots → Prop} : W (gPar ix g) S K = W g S fun ds S1 => ds.length = ix.length ∧ K .nx (setVals ix ds S1) := by
  unfold gPar; rw [W_bind]; congr 1; funext ds S1
  unfold W
  by_cases h : ds.length = ix.length
  · simp [h]
  · simp [h]
theorem W_gIsi {us : List Ty} {g : M Pd} {K : D → Slots → Prop} : W (gIsi us g) S K = W g S fun p S1 => WL (drf S1 p) fun d => WL (tyD d) fun t => K (.bl (us.any fun u => t.is u)) S1 := by
  unfold gIsi; rw [W_bind]; congr 1; funext p S1
  unfold W
  cases h1 : drf S1 p with
  | none => simp only [h1]; rfl
  | some d => cases h : tyD d with
    | none => simp only [h1, h]; exact (show False = WL (tyD d) _ by rw [h]; rfl)
    | some t => simp only [h1, h]; exact (show _ = WL (tyD d) _ by rw [h]; rfl)
/-! ### a def -/
theorem WF_def {g : M Fl} {as : List Rv} {K : Rv → List Rv → Prop} : WF (defFn n g as) K = W g (slots0 n as) fun fl S => match fl with
    | .nx => WL (lentOf S 0 as) fun as' => K (.val .non) as'
    | .rt pv => WL (lentOf S 0 as) fun as' => WL (retOf S pv) fun r => K r as'
    | _ => False := by
  unfold WF W defFn
  cases g (slots0 n as) with
  | bad => rfl
  | exc x S => simp only []; cases lentOf S 0 as <;> rfl
  | ok p =>
    obtain ⟨fl, S⟩ := p
    cases fl with
    | nx => unfold fin; simp only [retOf]; cases lentOf S 0 as <;> rfl
    | rt pv => unfold fin; simp only []; cases lentOf S 0 as <;> cases retOf S pv <;> rfl
    | bk => rfl
    | ct => rfl
theorem WL_of {o : Option α} {a : α} {K : α → Prop} (h : o = some a) : WL o K = K a := by rw [h]; rfl
theorem WL_drfd {K : D → Prop} : WL (drf S (.d d)) K = K d := id rfl
theorem WL_asB {b : Bool} {K : Bool → Prop} : WL (asB (.bl b)) K = K b := id rfl
section
variable {i j : Int} {K : Pv → Prop}
theorem eqv_int : PyData.eqv (.int i) (.int j) = decide (i = j) := by
  first | rfl | (simp [PyData.eqv]) | (unfold PyData.eqv; simp; rfl)
theorem WL_eqI : WL (oEq (.int i) (.int j)) K = K (.dat (.bl (decide (i = j)))) := by rw [← eqv_int]; rfl
theorem WL_neI : WL (oNe (.int i) (.int j)) K = K (.dat (.bl (!decide (i = j)))) := by rw [← eqv_int]; rfl
theorem WL_addI : WL (oAdd (.int i) (.int j)) K = K (.dat (.int (i + j))) := id rfl
theorem WL_subI : WL (oSub (.int i) (.int j)) K = K (.dat (.int (i - j))) := id rfl
theorem WL_mulI (h : i.natAbs.log2 + j.natAbs.log2 < 1000000) : WL (oMul (.int i) (.int j)) K = K (.dat (.int (i * j))) := WL_of (if_pos h)
theorem WL_modI (h : 0 < j) : WL (oMod (.int i) (.int j)) K = K (.dat (.int (i % j))) := WL_of (by show (if decide (0 < j) = true then _ else _) = _; rw [if_pos (decide_eq_true h)])
theorem WL_fdivI (h : 0 < j) (h2 : j.natAbs.log2 < 9000) : WL (oFdiv (.int i) (.int j)) K = K (.dat (.int (i / j))) := WL_of (by show (if (decide (0 < j) && decide (j.natAbs.log2 < 9000)) = true then _ else _) = _; rw [if_pos (by rw [decide_eq_true h, decide_eq_true h2]; rfl)])
theorem WL_powI (h : 0 ≤ j) (h2 : j ≤ 1000000) (h3 : i.natAbs < 2 ^ 64) : WL (oPow (.int i) (.int j)) K = K (.dat (.int (i ^ j.toNat))) := WL_of (by
  show (if (decide (0 ≤ j) && decide (j ≤ 1000000) && decide (i.natAbs < 2 ^ 64)) = true then _ else _) = _
  rw [if_pos (by rw [decide_eq_true h, decide_eq_true h2, decide_eq_true h3]; rfl)])
theorem WL_ltI : WL (oLt (.int i) (.int j)) K = K (.dat (.bl (decide (i < j)))) := id rfl
theorem WL_leI : WL (oLe (.int i) (.int j)) K = K (.dat (.bl (decide (i ≤ j)))) := id rfl
theorem WL_gtI : WL (oGt (.int i) (.int j)) K = K (.dat (.bl (decide (j < i)))) := id rfl
theorem WL_geI : WL (oGe (.int i) (.int j)) K = K (.dat (.bl (decide (j ≤ i)))) := id rfl
theorem WL_len {ds : List D} : WL (oLen [.lst ds]) K = K (.dat (.int ds.length)) := id rfl
theorem WL_lenT {ds : List D} : WL (oLen [.tup ds]) K = K (.dat (.int ds.length)) := id rfl
theorem WL_int : WL (oInt [.int i]) K = K (.dat (.int i)) := id rfl
end
end
end G
namespace G
open PySem
section
variable {α β : Type} {S : Slots} {i n m : Nat} {d : D} {pv : Pv}
theorem W.get {g : M α} {K : α → Slots → Prop} (h : W g S K) : ∃ a S', g S = .ok (a, S') ∧ K a S' := by
  unfold W at h
  split at h
  · exact ⟨_, _, by assumption, h⟩
  · exact h.elim
theorem W.mk {g : M α} {K : α → Slots → Prop} {a : α} {S' : Slots} (e : g S = .ok (a, S')) (k : K a S') : W g S K := by
  unfold W; simp only [e]; exact k
theorem WL.get {o : Option α} {K : α → Prop} (h : WL o K) : ∃ a, o = some a ∧ K a := by
  unfold WL at h
  split at h
  · exact ⟨_, rfl, h⟩
  · exact h.elim
theorem W_gPartN {K : Option Int → Slots → Prop} : W (gPart none) S K = K none S := id rfl
theorem W_gPartS {g : M Pd} {K : Option Int → Slots → Prop} : W (gPart (some g)) S K = W g S fun p S1 => WL (drf S1 p) fun d => WL (asI d) fun i => K (some i) S1 := by
  show W (M.bind g _) S K = _
  rw [W_bind]; congr 1; funext p S1
  unfold W
  cases h1 : drf S1 p with
  | none => simp only [h1]; rfl
  | some d => cases d <;> (simp only [h1]; rfl)
theorem W_gSlice {ga : M Pd} {gl gh : M (Option Int)} {K : Pv → Slots → Prop} : W (gSlice ga gl gh) S K = W ga S fun p S1 => W gl S1 fun lo S2 => W gh S2 fun hi S3 => WL (drf S3 p) fun d => WL (oSlS d lo hi) fun pv => K pv S3 := by
  unfold gSlice
  rw [W_bind]; congr 1; funext p S1
  rw [W_bind]; congr 1; funext lo S2
  rw [W_bind]; congr 1; funext hi S3
  unfold W
  cases h1 : drf S3 p with
  | none => simp only [h1]; rfl
  | some d => simp only [h1]; exact W_lift
theorem W_gRange1 {g : M D} {K : List D → Slots → Prop} : W (gRange1 g) S K = W g S fun d S1 => WL (asI d) fun j => inR j = true ∧ K (rangeD 0 j) S1 := by
  unfold gRange1
  rw [W_bind]; congr 1; funext d S1
  unfold W
  cases h1 : asI d with
  | none => simp only [h1]; rfl
  | some j =>
    simp only [h1]
    show _ = (inR j = true ∧ _)
    by_cases h : inR j = true
    · rw [if_pos h, eq_true h, true_and]; rfl
    · rw [if_neg h]; exact (eq_false fun q => h q.1).symm
theorem W_gRange2 {ga gb : M D} {K : List D → Slots → Prop} : W (gRange2 ga gb) S K = W ga S fun d S1 => W gb S1 fun e S2 => WL (asI d) fun i => WL (asI e) fun j => (inR i = true ∧ inR j = true) ∧ K (rangeD i j) S2 := by
  unfold gRange2
  rw [W_bind]; congr 1; funext d S1
  rw [W_bind]; congr 1; funext e S2
  unfold W
  cases h1 : asI d with
  | none => simp only [h1]; rfl
  | some i => cases h2 : asI e with
    | none => simp only [h1, h2]; rfl
    | some j =>
      simp only [h1, h2]
      show _ = ((inR i = true ∧ inR j = true) ∧ _)
      by_cases h : (inR i && inR j) = true
      · rw [if_pos h]
        rw [Bool.and_eq_true] at h
        rw [eq_true h, true_and]; rfl
      · rw [if_neg h]
        rw [Bool.and_eq_true] at h
        exact (eq_false fun q => h q.1).symm
theorem W_gSeqI {g : M D} {K : List D → Slots → Prop} : W (gSeqI g) S K = W g S fun d S1 => WL (seqD d) fun ds => K ds S1 := by
  unfold gSeqI; rw [W_bind]; congr 1; funext d S1; exact W_lift
theorem W_gEnum {g : M D} {K : List D → Slots → Prop} : W (gEnum g) S K = W g S fun d S1 => WL (seqD d) fun ds => K (enumD 0 ds) S1 := by
  unfold gEnum; rw [W_bind]; congr 1; funext d S1; rw [W_lift, WL_map]
theorem W_gFor {gi : M (List D)} {b : MT} {g : M Fl} {K : Fl → Slots → Prop} : W (gFor gi b g) S K = W gi S fun ds S1 => W (loop b g ds) S1 K := by unfold gFor; rw [W_bind]
theorem W_loop_cons {b : MT} {g : M Fl} {r : List D} {K : Fl → Slots → Prop} : W (loop b g (d :: r)) S K = W (b d) S fun _ S1 => W g S1 fun fl S2 => match fl with
    | .nx => W (loop b g r) S2 K
    | .ct => W (loop b g r) S2 K
    | .bk => K .nx S2
    | .rt pv => K (.rt pv) S2 := by
  show W (M.bind (b d) fun _ => M.bind g _) S K = _
  rw [W_bind]; congr 1; funext u S1
  rw [W_bind]; congr 1; funext fl S2
  cases fl <;> rfl
/-- a loop by an invariant -/
theorem W_loop {b : MT} {g : M Fl} {K : Fl → Slots → Prop} (I : Nat → Slots → Prop) : ∀ {ds : List D} {k : Nat} {S : Slots}, I k S → (∀ (j : Nat) (d : D) (S : Slots), ds[j]? = some d → I (k + j) S → W (b d) S fun _ S1 => W g S1 fun fl S2 => match fl with
    | .nx => I (k + j + 1) S2
    | .ct => I (k + j + 1) S2
    | .bk => K .nx S2
    | .rt pv => K (.rt pv) S2) → (∀ S, I (k + ds.length) S → K .nx S) → W (loop b g ds) S K
  | [], k, S, h, _, hk => hk S h
  | d :: r, k, S, h, st, hk => by
    rw [W_loop_cons]
    refine (st 0 d S rfl h).mono fun u S1 h1 => h1.mono fun fl S2 h2 => ?_
    have rest : I (k + 1) S2 → W (loop b g r) S2 K := fun h3 => W_loop I h3 (fun j d S e q => by
      have := st (j + 1) d S (by simpa using e) (by rw [← Nat.add_assoc, Nat.add_right_comm]; exact q)
      rw [show k + (j + 1) + 1 = k + 1 + j + 1 by omega] at this
      exact this) fun S q => hk S (by rw [List.length_cons, show k + (r.length + 1) = k + 1 + r.length by omega]; exact q)
    cases fl with
    | nx => exact rest h2
    | ct => exact rest h2
    | bk => exact h2
    | rt pv => exact h2
/-! comprehensions -/
theorem W_gLc {vs : List Nat} {gi : M (List D)} {b : MT} {gt : M Bool} {ge : M D} {K : Pv → Slots → Prop} : W (gLc vs gi b gt ge) S K = W gi S fun ds S1 => W (lcLoop vs b gt ge ds []) S1 fun acc S2 => K (.fr (.lst acc)) (backS S1 (wipeS S2 vs) vs) := by
  unfold gLc; rw [W_bind]; congr 1; funext ds S1
  unfold W
  cases e : lcLoop vs b gt ge ds [] S1 with
  | ok p => simp only [e]
  | exc x S' => simp only [e]
  | bad => simp only [e]
/-! fields, instances -/
theorem W_gFld {c : Nat} {f : Str} {g : M Pd} {K : D → Slots → Prop} : W (gFld c f g) S K = W g S fun p S1 => WL (drf S1 p) fun d => match d with
    | .ins c' fs ds => c' = c ∧ WL (fldD f fs ds) fun y => K y S1
    | _ => False := by
  unfold gFld; rw [W_bind]; congr 1; funext p S1
  unfold W
  cases h1 : drf S1 p with
  | none => simp only [h1]; rfl
  | some d =>
    simp only [h1]
    cases d with
    | ins c' fs ds =>
      show _ = (c' = c ∧ _)
      by_cases h : c' = c
      · rw [eq_true h, true_and]
        simp only [h, if_true]
        cases fldD f fs ds <;> rfl
      · simp only [h, if_false, false_and]
    | _ => rfl
theorem W_gSetF {c : Nat} {f : Str} {g : M D} {K : Fl → Slots → Prop} : W (gSetF i c f g) S K = W g S fun d S1 => ∃ fs ds b, S1[i]? = some (.own (.ins c fs ds) b) ∧ fs.length < 1000 ∧ K .nx (S1.set i (.own (.ins c (putN f fs) (putD f d fs ds)) b)) := by
  unfold gSetF; rw [W_bind]; congr 1; funext d S1
  unfold W
  cases h1 : S1[i]? with
  | none => simp only [h1]; exact (eq_false fun ⟨_, _, _, e, _⟩ => by cases e).symm
  | some sv => cases sv with
    | no => simp only [h1]; exact (eq_false fun ⟨_, _, _, e, _⟩ => by cases e).symm
    | cb _ => simp only [h1]; exact (eq_false fun ⟨_, _, _, e, _⟩ => by cases e).symm
    | val d => simp only [h1]; exact (eq_false fun ⟨_, _, _, e, _⟩ => by cases e).symm
    | own o b => cases o with
      | lst ds => simp only [h1]; exact (eq_false fun ⟨_, _, _, e, _⟩ => by cases e).symm
      | dic ks ds => simp only [h1]; exact (eq_false fun ⟨_, _, _, e, _⟩ => by cases e).symm
      | ins c' fs ds =>
        simp only [h1]
        by_cases h : c' = c ∧ fs.length < 1000
        · rw [if_pos h]
          obtain ⟨rfl, hl⟩ := h
          exact propext ⟨fun q => ⟨fs, ds, b, rfl, hl, q⟩, fun ⟨fs', ds', b', e, _, q⟩ => by cases e; exact q⟩
        · rw [if_neg h]
          exact (eq_false fun ⟨fs', ds', b', e, hl, _⟩ => by cases e; exact h ⟨rfl, hl⟩).symm
theorem W_gTupRg {ga : M D} {K : D → Slots → Prop} : W (gTupRg ga) S K = W ga S fun d S1 => WL (asI d) fun j => rgSmall 0 j = true ∧ K (.tup (rangeD 0 j)) S1 := by
  unfold gTupRg; rw [W_bind]; congr 1; funext d S1
  cases h1 : asI d with
  | none => simp only [h1]; rfl
  | some j =>
    simp only [h1]
    show _ = (rgSmall 0 j = true ∧ _)
    by_cases h : rgSmall 0 j = true
    · rw [if_pos h, eq_true h, true_and]; rfl
    · rw [if_neg h]; exact (eq_false fun q => h q.1).symm
end
end G
namespace G
open PySem PySem.Spec PyProof.Rows L2
section
variable {K : Pv → Prop}
theorem log2_le {i : Int} {k : Nat} (h : i.natAbs < 2 ^ (k + 1)) : i.natAbs.log2 ≤ k := by
  by_cases z : i.natAbs = 0
  · rw [z]; exact Nat.zero_le _
  · exact Nat.lt_succ_iff.mp ((Nat.log2_lt z).mpr h)
theorem mul_small {i j : Int} (h1 : i.natAbs < 2 ^ 101) (h2 : j.natAbs < 2 ^ 101) : i.natAbs.log2 + j.natAbs.log2 < 1000000 := by
  have a := log2_le (k := 100) h1
  have b := log2_le (k := 100) h2
  omega
theorem div_small {j : Int} (h2 : j.natAbs < 2 ^ 101) : j.natAbs.log2 < 9000 := by
  have b := log2_le (k := 100) h2
  omega
end
section
variable {i : Nat} {S : Slots} {d : D}
theorem W_giveFL {ds : List D} {K : D → Slots → Prop} : W (Pv.give (.fr (.lst ds))) S K = K (.lst ds) S := id rfl
theorem W_giveFI {c : Nat} {fs : List Str} {ds : List D} {K : D → Slots → Prop} : W (Pv.give (.fr (.ins c fs ds))) S K = K (.ins c fs ds) S := id rfl
theorem WL_drfs0 {K : List D → Prop} : WL (drfs S []) K = K [] := id rfl
theorem WL_drfsC {p : Pd} {r : List Pd} {K : List D → Prop} : WL (drfs S (p :: r)) K = WL (drf S p) fun d => WL (drfs S r) fun ds => K (d :: ds) := by
  unfold WL
  simp only [drfs]
  cases drf S p with
  | none => rfl
  | some d => cases drfs S r <;> rfl
theorem W_giveRV {K : D → Slots → Prop} : W (Pv.give (rvPv (.val d))) S K = K d S := id rfl
theorem W_giveRL {ds : List D} {K : D → Slots → Prop} : W (Pv.give (rvPv (.own (.lst ds)))) S K = K (.lst ds) S := id rfl
theorem W_giveRI {c : Nat} {fs : List Str} {ds : List D} {K : D → Slots → Prop} : W (Pv.give (rvPv (.own (.ins c fs ds)))) S K = K (.ins c fs ds) S := id rfl
theorem W_sqnx {g : M Fl} {K : Fl → Slots → Prop} : W (seqk g .nx) S K = W g S K := id rfl
theorem W_sqrt {g : M Fl} {pv : Pv} {K : Fl → Slots → Prop} : W (seqk g (.rt pv)) S K = K (.rt pv) S := id rfl
theorem W_sqbk {g : M Fl} {K : Fl → Slots → Prop} : W (seqk g .bk) S K = K .bk S := id rfl
theorem W_sqct {g : M Fl} {K : Fl → Slots → Prop} : W (seqk g .ct) S K = K .ct S := id rfl
end
/-! slices -/
noncomputable def cutA {α : Type} (xs : List α) (lo hi : Option Int) : List α := (xs.drop (HT.sIx xs.length 0 lo)).take (HT.sIx xs.length xs.length hi - HT.sIx xs.length 0 lo)
theorem cutA_map {α β : Type} (f : α → β) (xs : List α) (lo hi : Option Int) : cutA (xs.map f) lo hi = (cutA xs lo hi).map f := by
  unfold cutA
  rw [List.length_map, List.map_take, List.map_drop]
section
variable {xs : List D} {lo hi : Option Int} {K : Pv → Prop}
theorem WL_slR : WL (oSlS (.scr xs) lo hi) K = K (.fr (.lst (cutA xs lo hi))) := id rfl
theorem WL_slL : WL (oSlS (.lst xs) lo hi) K = K (.fr (.lst (cutA xs lo hi))) := id rfl
theorem WL_slT : WL (oSlS (.tup xs) lo hi) K = K (.dat (.tup (cutA xs lo hi))) := id rfl
theorem WL_list : WL (oList [.lst xs]) K = K (.fr (.lst xs)) := id rfl
theorem WL_listT : WL (oList [.tup xs]) K = K (.fr (.lst xs)) := id rfl
theorem WL_tuple : WL (oTuple [.lst xs]) K = K (.dat (.tup xs)) := id rfl
theorem WL_tupleT : WL (oTuple [.tup xs]) K = K (.dat (.tup xs)) := id rfl
end
end G
namespace G
open PySem
/-! ### the same rules as rewritings, told by words of their own -/
noncomputable def WB (b : Bool) (A B : Prop) : Prop := (b = true → A) ∧ (b = false → B)
noncomputable def WC (P A : Prop) : Prop := P ∧ A
noncomputable def WS (i : Nat) (S : Slots) (k : Sv → Prop) : Prop := match S[i]? with
  | some sv => k sv
  | none => False
noncomputable def WP (i : Nat) (v : Sv) (S : Slots) (k : Slots → Prop) : Prop := k (S.set i v)
section
variable {A B : Prop} {b : Bool}
theorem WB_t : WB true A B = A := by simp [WB]
theorem WB_f : WB false A B = B := by simp [WB]
theorem WB_n : WB (!b) A B = WB b B A := by cases b <;> simp [WB]
theorem WB_dt {P : Prop} [Decidable P] (h : P) : WB (decide P) A B = A := by rw [decide_eq_true h]; exact WB_t
theorem WB_df {P : Prop} [Decidable P] (h : ¬ P) : WB (decide P) A B = B := by rw [decide_eq_false h]; exact WB_f
theorem WB_and {c : Bool} : WB (b && c) A B = WB b (WB c A B) B := by cases b <;> simp [WB]
theorem WB_or {c : Bool} : WB (b || c) A B = WB b A (WB c A B) := by cases b <;> simp [WB]
theorem WB_mk (h1 : b = true → A) (h2 : b = false → B) : WB b A B := ⟨h1, h2⟩
theorem WB_dec {P : Prop} [Decidable P] (h1 : P → A) (h2 : ¬ P → B) : WB (decide P) A B := ⟨fun e => h1 (of_decide_eq_true e), fun e => h2 (of_decide_eq_false e)⟩
theorem WC_ok {P : Prop} (h : P) : WC P A = A := by simp [WC, h]
end
section
variable {k : Sv → Prop} {kp : Slots → Prop} {v : Sv} {S : Slots}
theorem WS_0 {x0 : Sv} : WS 0 (x0 :: S) k = k x0 := id rfl
theorem WP_0 {x0 : Sv} : WP 0 v (x0 :: S) kp = kp (v :: S) := id rfl
theorem WS_1 {x0 x1 : Sv} : WS 1 (x0 :: x1 :: S) k = k x1 := id rfl
theorem WP_1 {x0 x1 : Sv} : WP 1 v (x0 :: x1 :: S) kp = kp (x0 :: v :: S) := id rfl
theorem WS_2 {x0 x1 x2 : Sv} : WS 2 (x0 :: x1 :: x2 :: S) k = k x2 := id rfl
theorem WP_2 {x0 x1 x2 : Sv} : WP 2 v (x0 :: x1 :: x2 :: S) kp = kp (x0 :: x1 :: v :: S) := id rfl
theorem WS_3 {x0 x1 x2 x3 : Sv} : WS 3 (x0 :: x1 :: x2 :: x3 :: S) k = k x3 := id rfl
theorem WP_3 {x0 x1 x2 x3 : Sv} : WP 3 v (x0 :: x1 :: x2 :: x3 :: S) kp = kp (x0 :: x1 :: x2 :: v :: S) := id rfl
theorem WS_4 {x0 x1 x2 x3 x4 : Sv} : WS 4 (x0 :: x1 :: x2 :: x3 :: x4 :: S) k = k x4 := id rfl
theorem WP_4 {x0 x1 x2 x3 x4 : Sv} : WP 4 v (x0 :: x1 :: x2 :: x3 :: x4 :: S) kp = kp (x0 :: x1 :: x2 :: x3 :: v :: S) := id rfl
theorem WS_5 {x0 x1 x2 x3 x4 x5 : Sv} : WS 5 (x0 :: x1 :: x2 :: x3 :: x4 :: x5 :: S) k = k x5 := id rfl
theorem WP_5 {x0 x1 x2 x3 x4 x5 : Sv} : WP 5 v (x0 :: x1 :: x2 :: x3 :: x4 :: x5 :: S) kp = kp (x0 :: x1 :: x2 :: x3 :: x4 :: v :: S) := id rfl
theorem WS_6 {x0 x1 x2 x3 x4 x5 x6 : Sv} : WS 6 (x0 :: x1 :: x2 :: x3 :: x4 :: x5 :: x6 :: S) k = k x6 := id rfl
theorem WP_6 {x0 x1 x2 x3 x4 x5 x6 : Sv} : WP 6 v (x0 :: x1 :: x2 :: x3 :: x4 :: x5 :: x6 :: S) kp = kp (x0 :: x1 :: x2 :: x3 :: x4 :: x5 :: v :: S) := id rfl
theorem WS_7 {x0 x1 x2 x3 x4 x5 x6 x7 : Sv} : WS 7 (x0 :: x1 :: x2 :: x3 :: x4 :: x5 :: x6 :: x7 :: S) k = k x7 := id rfl
theorem WP_7 {x0 x1 x2 x3 x4 x5 x6 x7 : Sv} : WP 7 v (x0 :: x1 :: x2 :: x3 :: x4 :: x5 :: x6 :: x7 :: S) kp = kp (x0 :: x1 :: x2 :: x3 :: x4 :: x5 :: x6 :: v :: S) := id rfl
theorem WS_8 {x0 x1 x2 x3 x4 x5 x6 x7 x8 : Sv} : WS 8 (x0 :: x1 :: x2 :: x3 :: x4 :: x5 :: x6 :: x7 :: x8 :: S) k = k x8 := id rfl
theorem WP_8 {x0 x1 x2 x3 x4 x5 x6 x7 x8 : Sv} : WP 8 v (x0 :: x1 :: x2 :: x3 :: x4 :: x5 :: x6 :: x7 :: x8 :: S) kp = kp (x0 :: x1 :: x2 :: x3 :: x4 :: x5 :: x6 :: x7 :: v :: S) := id rfl
theorem WS_9 {x0 x1 x2 x3 x4 x5 x6 x7 x8 x9 : Sv} : WS 9 (x0 :: x1 :: x2 :: x3 :: x4 :: x5 :: x6 :: x7 :: x8 :: x9 :: S) k = k x9 := id rfl
theorem WP_9 {x0 x1 x2 x3 x4 x5 x6 x7 x8 x9 : Sv} : WP 9 v (x0 :: x1 :: x2 :: x3 :: x4 :: x5 :: x6 :: x7 :: x8 :: x9 :: S) kp = kp (x0 :: x1 :: x2 :: x3 :: x4 :: x5 :: x6 :: x7 :: x8 :: v :: S) := id rfl
theorem WS_10 {x0 x1 x2 x3 x4 x5 x6 x7 x8 x9 x10 : Sv} : WS 10 (x0 :: x1 :: x2 :: x3 :: x4 :: x5 :: x6 :: x7 :: x8 :: x9 :: x10 :: S) k = k x10 := id rfl
theorem WP_10 {x0 x1 x2 x3 x4 x5 x6 x7 x8 x9 x10 : Sv} : WP 10 v (x0 :: x1 :: x2 :: x3 :: x4 :: x5 :: x6 :: x7 :: x8 :: x9 :: x10 :: S) kp = kp (x0 :: x1 :: x2 :: x3 :: x4 :: x5 :: x6 :: x7 :: x8 :: x9 :: v :: S) := id rfl
theorem WS_11 {x0 x1 x2 x3 x4 x5 x6 x7 x8 x9 x10 x11 : Sv} : WS 11 (x0 :: x1 :: x2 :: x3 :: x4 :: x5 :: x6 :: x7 :: x8 :: x9 :: x10 :: x11 :: S) k = k x11 := id rfl
theorem WP_11 {x0 x1 x2 x3 x4 x5 x6 x7 x8 x9 x10 x11 : Sv} : WP 11 v (x0 :: x1 :: x2 :: x3 :: x4 :: x5 :: x6 :: x7 :: x8 :: x9 :: x10 :: x11 :: S) kp = kp (x0 :: x1 :: x2 :: x3 :: x4 :: x5 :: x6 :: x7 :: x8 :: x9 :: x10 :: v :: S) := id rfl
theorem WS_12 {x0 x1 x2 x3 x4 x5 x6 x7 x8 x9 x10 x11 x12 : Sv} : WS 12 (x0 :: x1 :: x2 :: x3 :: x4 :: x5 :: x6 :: x7 :: x8 :: x9 :: x10 :: x11 :: x12 :: S) k = k x12 := id rfl
theorem WP_12 {x0 x1 x2 x3 x4 x5 x6 x7 x8 x9 x10 x11 x12 : Sv} : WP 12 v (x0 :: x1 :: x2 :: x3 :: x4 :: x5 :: x6 :: x7 :: x8 :: x9 :: x10 :: x11 :: x12 :: S) kp = kp (x0 :: x1 :: x2 :: x3 :: x4 :: x5 :: x6 :: x7 :: x8 :: x9 :: x10 :: x11 :: v :: S) := id rfl
theorem WS_13 {x0 x1 x2 x3 x4 x5 x6 x7 x8 x9 x10 x11 x12 x13 : Sv} : WS 13 (x0 :: x1 :: x2 :: x3 :: x4 :: x5 :: x6 :: x7 :: x8 :: x9 :: x10 :: x11 :: x12 :: x13 :: S) k = k x13 := id rfl
theorem WP_13 {x0 x1 x2 x3 x4 x5 x6 x7 x8 x9 x10 x11 x12 x13 : Sv} : WP 13 v (x0 :: x1 :: x2 :: x3 :: x4 :: x5 :: x6 :: x7 :: x8 :: x9 :: x10 :: x11 :: x12 :: x13 :: S) kp = kp (x0 :: x1 :: x2 :: x3 :: x4 :: x5 :: x6 :: x7 :: x8 :: x9 :: x10 :: x11 :: x12 :: v :: S) := id rfl
theorem WS_14 {x0 x1 x2 x3 x4 x5 x6 x7 x8 x9 x10 x11 x12 x13 x14 : Sv} : WS 14 (x0 :: x1 :: x2 :: x3 :: x4 :: x5 :: x6 :: x7 :: x8 :: x9 :: x10 :: x11 :: x12 :: x13 :: x14 :: S) k = k x14 := id rfl
theorem WP_14 {x0 x1 x2 x3 x4 x5 x6 x7 x8 x9 x10 x11 x12 x13 x14 : Sv} : WP 14 v (x0 :: x1 :: x2 :: x3 :: x4 :: x5 :: x6 :: x7 :: x8 :: x9 :: x10 :: x11 :: x12 :: x13 :: x14 :: S) kp = kp (x0 :: x1 :: x2 :: x3 :: x4 :: x5 :: x6 :: x7 :: x8 :: x9 :: x10 :: x11 :: x12 :: x13 :: v :: S) := id rfl
theorem WS_15 {x0 x1 x2 x3 x4 x5 x6 x7 x8 x9 x10 x11 x12 x13 x14 x15 : Sv} : WS 15 (x0 :: x1 :: x2 :: x3 :: x4 :: x5 :: x6 :: x7 :: x8 :: x9 :: x10 :: x11 :: x12 :: x13 :: x14 :: x15 :: S) k = k x15 := id rfl
theorem WP_15 {x0 x1 x2 x3 x4 x5 x6 x7 x8 x9 x10 x11 x12 x13 x14 x15 : Sv} : WP 15 v (x0 :: x1 :: x2 :: x3 :: x4 :: x5 :: x6 :: x7 :: x8 :: x9 :: x10 :: x11 :: x12 :: x13 :: x14 :: x15 :: S) kp = kp (x0 :: x1 :: x2 :: x3 :: x4 :: x5 :: x6 :: x7 :: x8 :: x9 :: x10 :: x11 :: x12 :: x13 :: x14 :: v :: S) := id rfl
theorem WS_16 {x0 x1 x2 x3 x4 x5 x6 x7 x8 x9 x10 x11 x12 x13 x14 x15 x16 : Sv} : WS 16 (x0 :: x1 :: x2 :: x3 :: x4 :: x5 :: x6 :: x7 :: x8 :: x9 :: x10 :: x11 :: x12 :: x13 :: x14 :: x15 :: x16 :: S) k = k x16 := id rfl
theorem WP_16 {x0 x1 x2 x3 x4 x5 x6 x7 x8 x9 x10 x11 x12 x13 x14 x15 x16 : Sv} : WP 16 v (x0 :: x1 :: x2 :: x3 :: x4 :: x5 :: x6 :: x7 :: x8 :: x9 :: x10 :: x11 :: x12 :: x13 :: x14 :: x15 :: x16 :: S) kp = kp (x0 :: x1 :: x2 :: x3 :: x4 :: x5 :: x6 :: x7 :: x8 :: x9 :: x10 :: x11 :: x12 :: x13 :: x14 :: x15 :: v :: S) := id rfl
theorem WS_17 {x0 x1 x2 x3 x4 x5 x6 x7 x8 x9 x10 x11 x12 x13 x14 x15 x16 x17 : Sv} : WS 17 (x0 :: x1 :: x2 :: x3 :: x4 :: x5 :: x6 :: x7 :: x8 :: x9 :: x10 :: x11 :: x12 :: x13 :: x14 :: x15 :: x16 :: x17 :: S) k = k x17 := id rfl
theorem WP_17 {x0 x1 x2 x3 x4 x5 x6 x7 x8 x9 x10 x11 x12 x13 x14 x15 x16 x17 : Sv} : WP 17 v (x0 :: x1 :: x2 :: x3 :: x4 :: x5 :: x6 :: x7 :: x8 :: x9 :: x10 :: x11 :: x12 :: x13 :: x14 :: x15 :: x16 :: x17 :: S) kp = kp (x0 :: x1 :: x2 :: x3 :: x4 :: x5 :: x6 :: x7 :: x8 :: x9 :: x10 :: x11 :: x12 :: x13 :: x14 :: x15 :: x16 :: v :: S) := id rfl
theorem WS_18 {x0 x1 x2 x3 x4 x5 x6 x7 x8 x9 x10 x11 x12 x13 x14 x15 x16 x17 x18 : Sv} : WS 18 (x0 :: x1 :: x2 :: x3 :: x4 :: x5 :: x6 :: x7 :: x8 :: x9 :: x10 :: x11 :: x12 :: x13 :: x14 :: x15 :: x16 :: x17 :: x18 :: S) k = k x18 := id rfl
theorem WP_18 {x0 x1 x2 x3 x4 x5 x6 x7 x8 x9 x10 x11 x12 x13 x14 x15 x16 x17 x18 : Sv} : WP 18 v (x0 :: x1 :: x2 :: x3 :: x4 :: x5 :: x6 :: x7 :: x8 :: x9 :: x10 :: x11 :: x12 :: x13 :: x14 :: x15 :: x16 :: x17 :: x18 :: S) kp = kp (x0 :: x1 :: x2 :: x3 :: x4 :: x5 :: x6 :: x7 :: x8 :: x9 :: x10 :: x11 :: x12 :: x13 :: x14 :: x15 :: x16 :: x17 :: v :: S) := id rfl
theorem WS_19 {x0 x1 x2 x3 x4 x5 x6 x7 x8 x9 x10 x11 x12 x13 x14 x15 x16 x17 x18 x19 : Sv} : WS 19 (x0 :: x1 :: x2 :: x3 :: x4 :: x5 :: x6 :: x7 :: x8 :: x9 :: x10 :: x11 :: x12 :: x13 :: x14 :: x15 :: x16 :: x17 :: x18 :: x19 :: S) k = k x19 := id rfl
theorem WP_19 {x0 x1 x2 x3 x4 x5 x6 x7 x8 x9 x10 x11 x12 x13 x14 x15 x16 x17 x18 x19 : Sv} : WP 19 v (x0 :: x1 :: x2 :: x3 :: x4 :: x5 :: x6 :: x7 :: x8 :: x9 :: x10 :: x11 :: x12 :: x13 :: x14 :: x15 :: x16 :: x17 :: x18 :: x19 :: S) kp = kp (x0 :: x1 :: x2 :: x3 :: x4 :: x5 :: x6 :: x7 :: x8 :: x9 :: x10 :: x11 :: x12 :: x13 :: x14 :: x15 :: x16 :: x17 :: x18 :: v :: S) := id rfl
theorem WS_20 {x0 x1 x2 x3 x4 x5 x6 x7 x8 x9 x10 x11 x12 x13 x14 x15 x16 x17 x18 x19 x20 : Sv} : WS 20 (x0 :: x1 :: x2 :: x3 :: x4 :: x5 :: x6 :: x7 :: x8 :: x9 :: x10 :: x11 :: x12 :: x13 :: x14 :: x15 :: x16 :: x17 :: x18 :: x19 :: x20 :: S) k = k x20 := id rfl
theorem WP_20 {x0 x1 x2 x3 x4 x5 x6 x7 x8 x9 x10 x11 x12 x13 x14 x15 x16 x17 x18 x19 x20 : Sv} : WP 20 v (x0 :: x1 :: x2 :: x3 :: x4 :: x5 :: x6 :: x7 :: x8 :: x9 :: x10 :: x11 :: x12 :: x13 :: x14 :: x15 :: x16 :: x17 :: x18 :: x19 :: x20 :: S) kp = kp (x0 :: x1 :: x2 :: x3 :: x4 :: x5 :: x6 :: x7 :: x8 :: x9 :: x10 :: x11 :: x12 :: x13 :: x14 :: x15 :: x16 :: x17 :: x18 :: x19 :: v :: S) := id rfl
theorem WS_21 {x0 x1 x2 x3 x4 x5 x6 x7 x8 x9 x10 x11 x12 x13 x14 x15 x16 x17 x18 x19 x20 x21 : Sv} : WS 21 (x0 :: x1 :: x2 :: x3 :: x4 :: x5 :: x6 :: x7 :: x8 :: x9 :: x10 :: x11 :: x12 :: x13 :: x14 :: x15 :: x16 :: x17 :: x18 :: x19 :: x20 :: x21 :: S) k = k x21 := id rfl
theorem WP_21 {x0 x1 x2 x3 x4 x5 x6 x7 x8 x9 x10 x11 x12 x13 x14 x15 x16 x17 x18 x19 x20 x21 : Sv} : WP 21 v (x0 :: x1 :: x2 :: x3 :: x4 :: x5 :: x6 :: x7 :: x8 :: x9 :: x10 :: x11 :: x12 :: x13 :: x14 :: x15 :: x16 :: x17 :: x18 :: x19 :: x20 :: x21 :: S) kp = kp (x0 :: x1 :: x2 :: x3 :: x4 :: x5 :: x6 :: x7 :: x8 :: x9 :: x10 :: x11 :: x12 :: x13 :: x14 :: x15 :: x16 :: x17 :: x18 :: x19 :: x20 :: v :: S) := id rfl
theorem WS_22 {x0 x1 x2 x3 x4 x5 x6 x7 x8 x9 x10 x11 x12 x13 x14 x15 x16 x17 x18 x19 x20 x21 x22 : Sv} : WS 22 (x0 :: x1 :: x2 :: x3 :: x4 :: x5 :: x6 :: x7 :: x8 :: x9 :: x10 :: x11 :: x12 :: x13 :: x14 :: x15 :: x16 :: x17 :: x18 :: x19 :: x20 :: x21 :: x22 :: S) k = k x22 := id rfl
theorem WP_22 {x0 x1 x2 x3 x4 x5 x6 x7 x8 x9 x10 x11 x12 x13 x14 x15 x16 x17 x18 x19 x20 x21 x22 : Sv} : WP 22 v (x0 :: x1 :: x2 :: x3 :: x4 :: x5 :: x6 :: x7 :: x8 :: x9 :: x10 :: x11 :: x12 :: x13 :: x14 :: x15 :: x16 :: x17 :: x18 :: x19 :: x20 :: x21 :: x22 :: S) kp = kp (x0 :: x1 :: x2 :: x3 :: x4 :: x5 :: x6 :: x7 :: x8 :: x9 :: x10 :: x11 :: x12 :: x13 :: x14 :: x15 :: x16 :: x17 :: x18 :: x19 :: x20 :: x21 :: v :: S) := id rfl
theorem WS_23 {x0 x1 x2 x3 x4 x5 x6 x7 x8 x9 x10 x11 x12 x13 x14 x15 x16 x17 x18 x19 x20 x21 x22 x23 : Sv} : WS 23 (x0 :: x1 :: x2 :: x3 :: x4 :: x5 :: x6 :: x7 :: x8 :: x9 :: x10 :: x11 :: x12 :: x13 :: x14 :: x15 :: x16 :: x17 :: x18 :: x19 :: x20 :: x21 :: x22 :: x23 :: S) k = k x23 := id rfl
theorem WP_23 {x0 x1 x2 x3 x4 x5 x6 x7 x8 x9 x10 x11 x12 x13 x14 x15 x16 x17 x18 x19 x20 x21 x22 x23 : Sv} : WP 23 v (x0 :: x1 :: x2 :: x3 :: x4 :: x5 :: x6 :: x7 :: x8 :: x9 :: x10 :: x11 :: x12 :: x13 :: x14 :: x15 :: x16 :: x17 :: x18 :: x19 :: x20 :: x21 :: x22 :: x23 :: S) kp = kp (x0 :: x1 :: x2 :: x3 :: x4 :: x5 :: x6 :: x7 :: x8 :: x9 :: x10 :: x11 :: x12 :: x13 :: x14 :: x15 :: x16 :: x17 :: x18 :: x19 :: x20 :: x21 :: x22 :: v :: S) := id rfl
theorem WS_24 {x0 x1 x2 x3 x4 x5 x6 x7 x8 x9 x10 x11 x12 x13 x14 x15 x16 x17 x18 x19 x20 x21 x22 x23 x24 : Sv} : WS 24 (x0 :: x1 :: x2 :: x3 :: x4 :: x5 :: x6 :: x7 :: x8 :: x9 :: x10 :: x11 :: x12 :: x13 :: x14 :: x15 :: x16 :: x17 :: x18 :: x19 :: x20 :: x21 :: x22 :: x23 :: x24 :: S) k = k x24 := id rfl
theorem WP_24 {x0 x1 x2 x3 x4 x5 x6 x7 x8 x9 x10 x11 x12 x13 x14 x15 x16 x17 x18 x19 x20 x21 x22 x23 x24 : Sv} : WP 24 v (x0 :: x1 :: x2 :: x3 :: x4 :: x5 :: x6 :: x7 :: x8 :: x9 :: x10 :: x11 :: x12 :: x13 :: x14 :: x15 :: x16 :: x17 :: x18 :: x19 :: x20 :: x21 :: x22 :: x23 :: x24 :: S) kp = kp (x0 :: x1 :: x2 :: x3 :: x4 :: x5 :: x6 :: x7 :: x8 :: x9 :: x10 :: x11 :: x12 :: x13 :: x14 :: x15 :: x16 :: x17 :: x18 :: x19 :: x20 :: x21 :: x22 :: x23 :: v :: S) := id rfl
theorem WS_25 {x0 x1 x2 x3 x4 x5 x6 x7 x8 x9 x10 x11 x12 x13 x14 x15 x16 x17 x18 x19 x20 x21 x22 x23 x24 x25 : Sv} : WS 25 (x0 :: x1 :: x2 :: x3 :: x4 :: x5 :: x6 :: x7 :: x8 :: x9 :: x10 :: x11 :: x12 :: x13 :: x14 :: x15 :: x16 :: x17 :: x18 :: x19 :: x20 :: x21 :: x22 :: x23 :: x24 :: x25 :: S) k = k x25 := id rfl
theorem WP_25 {x0 x1 x2 x3 x4 x5 x6 x7 x8 x9 x10 x11 x12 x13 x14 x15 x16 x17 x18 x19 x20 x21 x22 x23 x24 x25 : Sv} : WP 25 v (x0 :: x1 :: x2 :: x3 :: x4 :: x5 :: x6 :: x7 :: x8 :: x9 :: x10 :: x11 :: x12 :: x13 :: x14 :: x15 :: x16 :: x17 :: x18 :: x19 :: x20 :: x21 :: x22 :: x23 :: x24 :: x25 :: S) kp = kp (x0 :: x1 :: x2 :: x3 :: x4 :: x5 :: x6 :: x7 :: x8 :: x9 :: x10 :: x11 :: x12 :: x13 :: x14 :: x15 :: x16 :: x17 :: x18 :: x19 :: x20 :: x21 :: x22 :: x23 :: x24 :: v :: S) := id rfl
theorem WS_26 {x0 x1 x2 x3 x4 x5 x6 x7 x8 x9 x10 x11 x12 x13 x14 x15 x16 x17 x18 x19 x20 x21 x22 x23 x24 x25 x26 : Sv} : WS 26 (x0 :: x1 :: x2 :: x3 :: x4 :: x5 :: x6 :: x7 :: x8 :: x9 :: x10 :: x11 :: x12 :: x13 :: x14 :: x15 :: x16 :: x17 :: x18 :: x19 :: x20 :: x21 :: x22 :: x23 :: x24 :: x25 :: x26 :: S) k = k x26 := id rfl
theorem WP_26 {x0 x1 x2 x3 x4 x5 x6 x7 x8 x9 x10 x11 x12 x13 x14 x15 x16 x17 x18 x19 x20 x21 x22 x23 x24 x25 x26 : Sv} : WP 26 v (x0 :: x1 :: x2 :: x3 :: x4 :: x5 :: x6 :: x7 :: x8 :: x9 :: x10 :: x11 :: x12 :: x13 :: x14 :: x15 :: x16 :: x17 :: x18 :: x19 :: x20 :: x21 :: x22 :: x23 :: x24 :: x25 :: x26 :: S) kp = kp (x0 :: x1 :: x2 :: x3 :: x4 :: x5 :: x6 :: x7 :: x8 :: x9 :: x10 :: x11 :: x12 :: x13 :: x14 :: x15 :: x16 :: x17 :: x18 :: x19 :: x20 :: x21 :: x22 :: x23 :: x24 :: x25 :: v :: S) := id rfl
theorem WS_27 {x0 x1 x2 x3 x4 x5 x6 x7 x8 x9 x10 x11 x12 x13 x14 x15 x16 x17 x18 x19 x20 x21 x22 x23 x24 x25 x26 x27 : Sv} : WS 27 (x0 :: x1 :: x2 :: x3 :: x4 :: x5 :: x6 :: x7 :: x8 :: x9 :: x10 :: x11 :: x12 :: x13 :: x14 :: x15 :: x16 :: x17 :: x18 :: x19 :: x20 :: x21 :: x22 :: x23 :: x24 :: x25 :: x26 :: x27 :: S) k = k x27 := id rfl
theorem WP_27 {x0 x1 x2 x3 x4 x5 x6 x7 x8 x9 x10 x11 x12 x13 x14 x15 x16 x17 x18 x19 x20 x21 x22 x23 x24 x25 x26 x27 : Sv} : WP 27 v (x0 :: x1 :: x2 :: x3 :: x4 :: x5 :: x6 :: x7 :: x8 :: x9 :: x10 :: x11 :: x12 :: x13 :: x14 :: x15 :: x16 :: x17 :: x18 :: x19 :: x20 :: x21 :: x22 :: x23 :: x24 :: x25 :: x26 :: x27 :: S) kp = kp (x0 :: x1 :: x2 :: x3 :: x4 :: x5 :: x6 :: x7 :: x8 :: x9 :: x10 :: x11 :: x12 :: x13 :: x14 :: x15 :: x16 :: x17 :: x18 :: x19 :: x20 :: x21 :: x22 :: x23 :: x24 :: x25 :: x26 :: v :: S) := id rfl
theorem WS_28 {x0 x1 x2 x3 x4 x5 x6 x7 x8 x9 x10 x11 x12 x13 x14 x15 x16 x17 x18 x19 x20 x21 x22 x23 x24 x25 x26 x27 x28 : Sv} : WS 28 (x0 :: x1 :: x2 :: x3 :: x4 :: x5 :: x6 :: x7 :: x8 :: x9 :: x10 :: x11 :: x12 :: x13 :: x14 :: x15 :: x16 :: x17 :: x18 :: x19 :: x20 :: x21 :: x22 :: x23 :: x24 :: x25 :: x26 :: x27 :: x28 :: S) k = k x28 := id rfl
theorem WP_28 {x0 x1 x2 x3 x4 x5 x6 x7 x8 x9 x10 x11 x12 x13 x14 x15 x16 x17 x18 x19 x20 x21 x22 x23 x24 x25 x26 x27 x28 : Sv} : WP 28 v (x0 :: x1 :: x2 :: x3 :: x4 :: x5 :: x6 :: x7 :: x8 :: x9 :: x10 :: x11 :: x12 :: x13 :: x14 :: x15 :: x16 :: x17 :: x18 :: x19 :: x20 :: x21 :: x22 :: x23 :: x24 :: x25 :: x26 :: x27 :: x28 :: S) kp = kp (x0 :: x1 :: x2 :: x3 :: x4 :: x5 :: x6 :: x7 :: x8 :: x9 :: x10 :: x11 :: x12 :: x13 :: x14 :: x15 :: x16 :: x17 :: x18 :: x19 :: x20 :: x21 :: x22 :: x23 :: x24 :: x25 :: x26 :: x27 :: v :: S) := id rfl
theorem WS_29 {x0 x1 x2 x3 x4 x5 x6 x7 x8 x9 x10 x11 x12 x13 x14 x15 x16 x17 x18 x19 x20 x21 x22 x23 x24 x25 x26 x27 x28 x29 : Sv} : WS 29 (x0 :: x1 :: x2 :: x3 :: x4 :: x5 :: x6 :: x7 :: x8 :: x9 :: x10 :: x11 :: x12 :: x13 :: x14 :: x15 :: x16 :: x17 :: x18 :: x19 :: x20 :: x21 :: x22 :: x23 :: x24 :: x25 :: x26 :: x27 :: x28 :: x29 :: S) k = k x29 := id rfl
theorem WP_29 {x0 x1 x2 x3 x4 x5 x6 x7 x8 x9 x10 x11 x12 x13 x14 x15 x16 x17 x18 x19 x20 x21 x22 x23 x24 x25 x26 x27 x28 x29 : Sv} : WP 29 v (x0 :: x1 :: x2 :: x3 :: x4 :: x5 :: x6 :: x7 :: x8 :: x9 :: x10 :: x11 :: x12 :: x13 :: x14 :: x15 :: x16 :: x17 :: x18 :: x19 :: x20 :: x21 :: x22 :: x23 :: x24 :: x25 :: x26 :: x27 :: x28 :: x29 :: S) kp = kp (x0 :: x1 :: x2 :: x3 :: x4 :: x5 :: x6 :: x7 :: x8 :: x9 :: x10 :: x11 :: x12 :: x13 :: x14 :: x15 :: x16 :: x17 :: x18 :: x19 :: x20 :: x21 :: x22 :: x23 :: x24 :: x25 :: x26 :: x27 :: x28 :: v :: S) := id rfl
end
section
variable {α β : Type} {S : Slots} {i n m : Nat} {d : D} {pv : Pv} {o : Ov} {b : Bool}
/-! slots -/
noncomputable def gVarK (i : Nat) (K : Pv → Slots → Prop) (S : Slots) : Sv → Prop
  | .val d => K (.dat d) S
  | .own _ _ => K (.sl i) S
  | .no => False
  | .cb _ => False
theorem V_gVar {K : Pv → Slots → Prop} : W (gVar i) S K = WS i S (gVarK i K S) := by
  unfold W gVar WS
  cases S[i]? with
  | none => rfl
  | some sv => cases sv <;> rfl
theorem gVarK_v {K : Pv → Slots → Prop} : gVarK i K S (.val d) = K (.dat d) S := id rfl
theorem gVarK_o {K : Pv → Slots → Prop} : gVarK i K S (.own o b) = K (.sl i) S := id rfl
noncomputable def pSK (i : Nat) (K : Pd → Slots → Prop) (S : Slots) : Sv → Prop
  | .val d => K (.d d) S
  | .own _ _ => K (.sl i) S
  | .no => False
  | .cb _ => False
theorem V_pS {K : Pd → Slots → Prop} : W (pS i) S K = WS i S (pSK i K S) := by
  unfold W pS WS
  cases S[i]? with
  | none => rfl
  | some sv => cases sv <;> rfl
theorem pSK_v {K : Pd → Slots → Prop} : pSK i K S (.val d) = K (.d d) S := id rfl
theorem pSK_o {K : Pd → Slots → Prop} : pSK i K S (.own o b) = K (.sl i) S := id rfl
noncomputable def giveK (i : Nat) (K : D → Slots → Prop) (S : Slots) : Sv → Prop
  | .val d => K d S
  | .own o _ => WP i (.val o.d) S (K o.d)
  | .no => False
  | .cb _ => False
theorem V_giveS {K : D → Slots → Prop} : W (Pv.give (.sl i)) S K = WS i S (giveK i K S) := by
  unfold W WS
  simp only [Pv.give]
  cases h : S[i]? with
  | none => simp only [h]
  | some sv => cases sv <;> (simp only [h, giveK]; try rfl)
theorem giveK_v {K : D → Slots → Prop} : giveK i K S (.val d) = K d S := id rfl
theorem giveK_l {K : D → Slots → Prop} {ds : List D} : giveK i K S (.own (.lst ds) b) = WP i (.val (.lst ds)) S (K (.lst ds)) := id rfl
theorem giveK_i {K : D → Slots → Prop} {c : Nat} {fs : List Str} {ds : List D} : giveK i K S (.own (.ins c fs ds) b) = WP i (.val (.ins c fs ds)) S (K (.ins c fs ds)) := id rfl
theorem giveK_d {K : D → Slots → Prop} {ks ds : List D} : giveK i K S (.own (.dic ks ds) b) = WP i (.val (.dic ks ds)) S (K (.dic ks ds)) := id rfl
theorem V_giveFD {K : D → Slots → Prop} {ks ds : List D} : W (Pv.give (.fr (.dic ks ds))) S K = K (.dic ks ds) S := id rfl
theorem V_putD {K : Fl → Slots → Prop} : W (putPv i (.dat d)) S K = WP i (.val d) S (K .nx) := id rfl
theorem V_putF {K : Fl → Slots → Prop} : W (putPv i (.fr o)) S K = WP i (.own o false) S (K .nx) := id rfl
theorem V_putS {j : Nat} {K : Fl → Slots → Prop} : W (putPv i (.sl j)) S K = W (Pv.give (.sl j)) S fun d S' => WP i (.val d) S' (K .nx) := by
  unfold W
  simp only [putPv]
  cases (Pv.sl j).give S <;> rfl
theorem V_bName {K : Unit → Slots → Prop} : W (bName i d) S K = WP i (.val d) S (K ()) := id rfl
/-! data of an operand -/
noncomputable def drfK (K : D → Prop) : Sv → Prop
  | .val d => K d
  | .own o _ => K o.d
  | .no => False
  | .cb _ => False
theorem V_drfS {K : D → Prop} : WL (drf S (.sl i)) K = WS i S (drfK K) := by
  unfold WL drf WS
  cases h : S[i]? with
  | none => simp only [h]
  | some sv => cases sv <;> simp only [h, drfK]
theorem drfK_v {K : D → Prop} : drfK K (.val d) = K d := id rfl
theorem drfK_l {K : D → Prop} {ds : List D} : drfK K (.own (.lst ds) b) = K (.lst ds) := id rfl
theorem drfK_i {K : D → Prop} {c : Nat} {fs : List Str} {ds : List D} : drfK K (.own (.ins c fs ds) b) = K (.ins c fs ds) := id rfl
theorem drfK_d {K : D → Prop} {ks ds : List D} : drfK K (.own (.dic ks ds) b) = K (.dic ks ds) := id rfl
/-! branches -/
theorem V_gAnd {ga gb : M Bool} {K : Bool → Slots → Prop} : W (gAnd ga gb) S K = W ga S fun a S' => WB a (W gb S' K) (K false S') := W_gAnd
theorem V_gOr {ga gb : M Bool} {K : Bool → Slots → Prop} : W (gOr ga gb) S K = W ga S fun a S' => WB a (K true S') (W gb S' K) := W_gOr
theorem V_gIf {gc : M Bool} {ga gb : M Pv} {K : Pv → Slots → Prop} : W (gIf gc ga gb) S K = W gc S fun a S' => WB a (W ga S' K) (W gb S' K) := W_gIf
theorem V_gIfS {gc : M Bool} {ga gb : M Fl} {K : Fl → Slots → Prop} : W (gIfS gc ga gb) S K = W gc S fun a S' => WB a (W ga S' K) (W gb S' K) := W_gIfS
theorem V_gAndV {ga gb : M D} {K : D → Slots → Prop} : W (gAndV ga gb) S K = W ga S fun d S' => WL (asB d) fun a => WB a (W gb S' K) (K (.bl false) S') := W_gAndV
theorem V_gOrV {ga gb : M D} {K : D → Slots → Prop} : W (gOrV ga gb) S K = W ga S fun d S' => WL (asB d) fun a => WB a (K (.bl true) S') (W gb S' K) := W_gOrV
theorem V_pure {a : α} {K : α → Slots → Prop} : W (M.pure a) S K = K a S := id rfl
theorem V_bad {K : α → Slots → Prop} : W (M.bad : M α) S K = False := id rfl
theorem V_gTup {g : M (List D)} {K : D → Slots → Prop} : W (gTup g) S K = W g S fun ds S1 => WC (ds.length ≤ sizeLine) (K (.tup ds) S1) := W_gTup
theorem V_gLst {g : M (List D)} {K : Pv → Slots → Prop} : W (gLst g) S K = W g S fun ds S1 => WC (ds.length ≤ sizeLine) (K (.fr (.lst ds)) S1) := W_gLst
/-! a = f(..) -/
noncomputable def WPs : List Nat → List D → Slots → (Slots → Prop) → Prop := fun ix ds S k => ds.length = ix.length ∧ k (setVals ix ds S)
theorem V_gPar {ix : List Nat} {g : M (List D)} {K : Fl → Slots → Prop} : W (gPar ix g) S K = W g S fun ds S1 => WPs ix ds S1 (K .nx) := W_gPar
theorem WPs_n {k : Slots → Prop} : WPs [] [] S k = k S := by simp [WPs, setVals]
theorem WPs_c {is : List Nat} {ds : List D} {k : Slots → Prop} : WPs (i :: is) (d :: ds) S k = WP i (.val d) S fun S' => WPs is ds S' k := by simp [WPs, setVals, WP]
/-! isinstance -/
noncomputable def WTy (t u : Ty) (A B : Prop) : Prop := if t.is u = true then A else B
noncomputable def anyK (us : List Ty) (t : Ty) (k : Bool → Prop) : Prop := k (us.any fun u => t.is u)
theorem anyK_n {t : Ty} {k : Bool → Prop} : anyK [] t k = k false := id rfl
theorem anyK_c {t u : Ty} {us : List Ty} {k : Bool → Prop} : anyK (u :: us) t k = WTy t u (k true) (anyK us t k) := by
  unfold anyK WTy
  rw [List.any_cons]
  by_cases h : t.is u = true
  · rw [if_pos h, h, Bool.true_or]
  · rw [if_neg h, Bool.eq_false_iff.mpr h, Bool.false_or]
theorem V_gIsi {us : List Ty} {g : M Pd} {K : D → Slots → Prop} : W (gIsi us g) S K = W g S fun p S1 => WL (drf S1 p) fun d => WL (tyD d) fun t => anyK us t fun b => K (.bl b) S1 := W_gIsi
theorem ty_non {K : Ty → Prop} : WL (tyD .non) K = K .non := id rfl
theorem ty_bl {K : Ty → Prop} : WL (tyD (.bl b)) K = K .bl := id rfl
theorem ty_int {K : Ty → Prop} {i : Int} : WL (tyD (.int i)) K = K .int := id rfl
theorem ty_str {K : Ty → Prop} {x : Str} : WL (tyD (.str x)) K = K .str := id rfl
theorem ty_tup {K : Ty → Prop} {ds : List D} : WL (tyD (.tup ds)) K = K .tup := id rfl
theorem ty_lst {K : Ty → Prop} {ds : List D} : WL (tyD (.lst ds)) K = K .lst := id rfl
theorem WTy_non_non {A B : Prop} : WTy .non .non A B = A := id rfl
theorem WTy_non_bl {A B : Prop} : WTy .non .bl A B = B := id rfl
theorem WTy_non_int {A B : Prop} : WTy .non .int A B = B := id rfl
theorem WTy_non_str {A B : Prop} : WTy .non .str A B = B := id rfl
theorem WTy_non_tup {A B : Prop} : WTy .non .tup A B = B := id rfl
theorem WTy_non_lst {A B : Prop} : WTy .non .lst A B = B := id rfl
theorem WTy_non_dic {A B : Prop} : WTy .non .dic A B = B := id rfl
theorem WTy_bl_non {A B : Prop} : WTy .bl .non A B = B := id rfl
theorem WTy_bl_bl {A B : Prop} : WTy .bl .bl A B = A := id rfl
theorem WTy_bl_int {A B : Prop} : WTy .bl .int A B = A := id rfl
theorem WTy_bl_str {A B : Prop} : WTy .bl .str A B = B := id rfl
theorem WTy_bl_tup {A B : Prop} : WTy .bl .tup A B = B := id rfl
theorem WTy_bl_lst {A B : Prop} : WTy .bl .lst A B = B := id rfl
theorem WTy_bl_dic {A B : Prop} : WTy .bl .dic A B = B := id rfl
theorem WTy_int_non {A B : Prop} : WTy .int .non A B = B := id rfl
theorem WTy_int_bl {A B : Prop} : WTy .int .bl A B = B := id rfl
theorem WTy_int_int {A B : Prop} : WTy .int .int A B = A := id rfl
theorem WTy_int_str {A B : Prop} : WTy .int .str A B = B := id rfl
theorem WTy_int_tup {A B : Prop} : WTy .int .tup A B = B := id rfl
theorem WTy_int_lst {A B : Prop} : WTy .int .lst A B = B := id rfl
theorem WTy_int_dic {A B : Prop} : WTy .int .dic A B = B := id rfl
theorem WTy_str_non {A B : Prop} : WTy .str .non A B = B := id rfl
theorem WTy_str_bl {A B : Prop} : WTy .str .bl A B = B := id rfl
theorem WTy_str_int {A B : Prop} : WTy .str .int A B = B := id rfl
theorem WTy_str_str {A B : Prop} : WTy .str .str A B = A := id rfl
theorem WTy_str_tup {A B : Prop} : WTy .str .tup A B = B := id rfl
theorem WTy_str_lst {A B : Prop} : WTy .str .lst A B = B := id rfl
theorem WTy_str_dic {A B : Prop} : WTy .str .dic A B = B := id rfl
theorem WTy_tup_non {A B : Prop} : WTy .tup .non A B = B := id rfl
theorem WTy_tup_bl {A B : Prop} : WTy .tup .bl A B = B := id rfl
theorem WTy_tup_int {A B : Prop} : WTy .tup .int A B = B := id rfl
theorem WTy_tup_str {A B : Prop} : WTy .tup .str A B = B := id rfl
theorem WTy_tup_tup {A B : Prop} : WTy .tup .tup A B = A := id rfl
theorem WTy_tup_lst {A B : Prop} : WTy .tup .lst A B = B := id rfl
theorem WTy_tup_dic {A B : Prop} : WTy .tup .dic A B = B := id rfl
theorem WTy_lst_non {A B : Prop} : WTy .lst .non A B = B := id rfl
theorem WTy_lst_bl {A B : Prop} : WTy .lst .bl A B = B := id rfl
theorem WTy_lst_int {A B : Prop} : WTy .lst .int A B = B := id rfl
theorem WTy_lst_str {A B : Prop} : WTy .lst .str A B = B := id rfl
theorem WTy_lst_tup {A B : Prop} : WTy .lst .tup A B = B := id rfl
theorem WTy_lst_lst {A B : Prop} : WTy .lst .lst A B = A := id rfl
theorem WTy_lst_dic {A B : Prop} : WTy .lst .dic A B = B := id rfl
theorem WTy_dic_non {A B : Prop} : WTy .dic .non A B = B := id rfl
theorem WTy_dic_bl {A B : Prop} : WTy .dic .bl A B = B := id rfl
theorem WTy_dic_int {A B : Prop} : WTy .dic .int A B = B := id rfl
theorem WTy_dic_str {A B : Prop} : WTy .dic .str A B = B := id rfl
theorem WTy_dic_tup {A B : Prop} : WTy .dic .tup A B = B := id rfl
theorem WTy_dic_lst {A B : Prop} : WTy .dic .lst A B = B := id rfl
theorem WTy_dic_dic {A B : Prop} : WTy .dic .dic A B = A := id rfl
/-! a def's end -/
noncomputable def lentK (k : Ov → Prop) : Sv → Prop
  | .own o true => k o
  | _ => False
theorem lentK_o {k : Ov → Prop} : lentK k (.own o true) = k o := id rfl
theorem lent_n {K : List Rv → Prop} : WL (lentOf S i []) K = K [] := id rfl
theorem lent_v {r : List Rv} {K : List Rv → Prop} : WL (lentOf S i (.val d :: r)) K = WL (lentOf S (i + 1) r) fun as => K (.val d :: as) := by
  show WL ((lentOf S (i + 1) r).map (.val d :: ·)) K = _
  rw [WL_map]
theorem lent_c {f : CF} {r : List Rv} {K : List Rv → Prop} : WL (lentOf S i (.cb f :: r)) K = WL (lentOf S (i + 1) r) fun as => K (.cb f :: as) := by
  show WL ((lentOf S (i + 1) r).map (.cb f :: ·)) K = _
  rw [WL_map]
theorem lent_o {r : List Rv} {K : List Rv → Prop} : WL (lentOf S i (.own o :: r)) K = WS i S (lentK fun o' => WL (lentOf S (i + 1) r) fun as => K (.own o' :: as)) := by
  have e : lentOf S i (.own o :: r) = match S[i]? with
      | some (.own o true) => (lentOf S (i + 1) r).map (.own o :: ·)
      | _ => none := id rfl
  rw [e]
  unfold WS
  cases h : S[i]? with
  | none => rfl
  | some sv => cases sv with
    | no => rfl
    | val d => rfl
    | cb f => rfl
    | own o' b => cases b with
      | false => rfl
      | true => show WL ((lentOf S (i + 1) r).map _) K = _; rw [WL_map]; rfl
noncomputable def retK (K : Rv → Prop) : Sv → Prop
  | .own o false => K (.own o)
  | _ => False
theorem retK_o {K : Rv → Prop} : retK K (.own o false) = K (.own o) := id rfl
theorem ret_d {K : Rv → Prop} : WL (retOf S (.dat d)) K = K (.val d) := id rfl
theorem ret_f {K : Rv → Prop} : WL (retOf S (.fr o)) K = K (.own o) := id rfl
theorem ret_s {K : Rv → Prop} : WL (retOf S (.sl i)) K = WS i S (retK K) := by
  unfold WL retOf WS
  cases h : S[i]? with
  | none => simp only [h]
  | some sv => cases sv with
    | no => simp only [h, retK]
    | cb f => simp only [h, retK]
    | val d => simp only [h, retK]
    | own o b => cases b <;> simp only [h, retK]
noncomputable def endK (as : List Rv) (K : Rv → List Rv → Prop) (S : Slots) : Fl → Prop
  | .nx => WL (lentOf S 0 as) fun as' => K (.val .non) as'
  | .rt pv => WL (lentOf S 0 as) fun as' => WL (retOf S pv) fun r => K r as'
  | _ => False
noncomputable def WZ (n : Nat) (as : List Rv) (k : Slots → Prop) : Prop := k (slots0 n as)
theorem WZ_v {as : List Rv} {k : Slots → Prop} : WZ (n + 1) (.val d :: as) k = WZ n as fun S => k (.val d :: S) := by
  unfold WZ slots0
  simp only [List.map_cons, slot0, List.length_cons, Nat.add_sub_add_right, List.cons_append]
theorem WZ_c {f : CF} {as : List Rv} {k : Slots → Prop} : WZ (n + 1) (.cb f :: as) k = WZ n as fun S => k (.cb f :: S) := by
  unfold WZ slots0
  simp only [List.map_cons, slot0, List.length_cons, Nat.add_sub_add_right, List.cons_append]
theorem WZ_o {as : List Rv} {k : Slots → Prop} : WZ (n + 1) (.own o :: as) k = WZ n as fun S => k (.own o true :: S) := by
  unfold WZ slots0
  simp only [List.map_cons, slot0, List.length_cons, Nat.add_sub_add_right, List.cons_append]
theorem WZ_0 {k : Slots → Prop} : WZ 0 [] k = k [] := id rfl
theorem WZ_1 {k : Slots → Prop} : WZ 1 [] k = k [.no] := id rfl
theorem WZ_2 {k : Slots → Prop} : WZ 2 [] k = k [.no, .no] := id rfl
theorem WZ_3 {k : Slots → Prop} : WZ 3 [] k = k [.no, .no, .no] := id rfl
theorem WZ_4 {k : Slots → Prop} : WZ 4 [] k = k [.no, .no, .no, .no] := id rfl
theorem WZ_5 {k : Slots → Prop} : WZ 5 [] k = k [.no, .no, .no, .no, .no] := id rfl
theorem WZ_6 {k : Slots → Prop} : WZ 6 [] k = k [.no, .no, .no, .no, .no, .no] := id rfl
theorem WZ_7 {k : Slots → Prop} : WZ 7 [] k = k [.no, .no, .no, .no, .no, .no, .no] := id rfl
theorem WZ_8 {k : Slots → Prop} : WZ 8 [] k = k [.no, .no, .no, .no, .no, .no, .no, .no] := id rfl
theorem WZ_9 {k : Slots → Prop} : WZ 9 [] k = k [.no, .no, .no, .no, .no, .no, .no, .no, .no] := id rfl
theorem WZ_10 {k : Slots → Prop} : WZ 10 [] k = k [.no, .no, .no, .no, .no, .no, .no, .no, .no, .no] := id rfl
theorem WZ_11 {k : Slots → Prop} : WZ 11 [] k = k [.no, .no, .no, .no, .no, .no, .no, .no, .no, .no, .no] := id rfl
theorem WZ_12 {k : Slots → Prop} : WZ 12 [] k = k [.no, .no, .no, .no, .no, .no, .no, .no, .no, .no, .no, .no] := id rfl
theorem WZ_13 {k : Slots → Prop} : WZ 13 [] k = k [.no, .no, .no, .no, .no, .no, .no, .no, .no, .no, .no, .no, .no] := id rfl
theorem WZ_14 {k : Slots → Prop} : WZ 14 [] k = k [.no, .no, .no, .no, .no, .no, .no, .no, .no, .no, .no, .no, .no, .no] := id rfl
theorem WZ_15 {k : Slots → Prop} : WZ 15 [] k = k [.no, .no, .no, .no, .no, .no, .no, .no, .no, .no, .no, .no, .no, .no, .no] := id rfl
theorem WZ_16 {k : Slots → Prop} : WZ 16 [] k = k [.no, .no, .no, .no, .no, .no, .no, .no, .no, .no, .no, .no, .no, .no, .no, .no] := id rfl
theorem WZ_17 {k : Slots → Prop} : WZ 17 [] k = k [.no, .no, .no, .no, .no, .no, .no, .no, .no, .no, .no, .no, .no, .no, .no, .no, .no] := id rfl
theorem WZ_18 {k : Slots → Prop} : WZ 18 [] k = k [.no, .no, .no, .no, .no, .no, .no, .no, .no, .no, .no, .no, .no, .no, .no, .no, .no, .no] := id rfl
theorem WZ_19 {k : Slots → Prop} : WZ 19 [] k = k [.no, .no, .no, .no, .no, .no, .no, .no, .no, .no, .no, .no, .no, .no, .no, .no, .no, .no, .no] := id rfl
theorem WZ_20 {k : Slots → Prop} : WZ 20 [] k = k [.no, .no, .no, .no, .no, .no, .no, .no, .no, .no, .no, .no, .no, .no, .no, .no, .no, .no, .no, .no] := id rfl
theorem WZ_21 {k : Slots → Prop} : WZ 21 [] k = k [.no, .no, .no, .no, .no, .no, .no, .no, .no, .no, .no, .no, .no, .no, .no, .no, .no, .no, .no, .no, .no] := id rfl
theorem WZ_22 {k : Slots → Prop} : WZ 22 [] k = k [.no, .no, .no, .no, .no, .no, .no, .no, .no, .no, .no, .no, .no, .no, .no, .no, .no, .no, .no, .no, .no, .no] := id rfl
theorem WZ_23 {k : Slots → Prop} : WZ 23 [] k = k [.no, .no, .no, .no, .no, .no, .no, .no, .no, .no, .no, .no, .no, .no, .no, .no, .no, .no, .no, .no, .no, .no, .no] := id rfl
theorem WZ_24 {k : Slots → Prop} : WZ 24 [] k = k [.no, .no, .no, .no, .no, .no, .no, .no, .no, .no, .no, .no, .no, .no, .no, .no, .no, .no, .no, .no, .no, .no, .no, .no] := id rfl
theorem WZ_25 {k : Slots → Prop} : WZ 25 [] k = k [.no, .no, .no, .no, .no, .no, .no, .no, .no, .no, .no, .no, .no, .no, .no, .no, .no, .no, .no, .no, .no, .no, .no, .no, .no] := id rfl
theorem WZ_26 {k : Slots → Prop} : WZ 26 [] k = k [.no, .no, .no, .no, .no, .no, .no, .no, .no, .no, .no, .no, .no, .no, .no, .no, .no, .no, .no, .no, .no, .no, .no, .no, .no, .no] := id rfl
theorem WZ_27 {k : Slots → Prop} : WZ 27 [] k = k [.no, .no, .no, .no, .no, .no, .no, .no, .no, .no, .no, .no, .no, .no, .no, .no, .no, .no, .no, .no, .no, .no, .no, .no, .no, .no, .no] := id rfl
theorem WZ_28 {k : Slots → Prop} : WZ 28 [] k = k [.no, .no, .no, .no, .no, .no, .no, .no, .no, .no, .no, .no, .no, .no, .no, .no, .no, .no, .no, .no, .no, .no, .no, .no, .no, .no, .no, .no] := id rfl
theorem WZ_29 {k : Slots → Prop} : WZ 29 [] k = k [.no, .no, .no, .no, .no, .no, .no, .no, .no, .no, .no, .no, .no, .no, .no, .no, .no, .no, .no, .no, .no, .no, .no, .no, .no, .no, .no, .no, .no] := id rfl
theorem WZ_30 {k : Slots → Prop} : WZ 30 [] k = k [.no, .no, .no, .no, .no, .no, .no, .no, .no, .no, .no, .no, .no, .no, .no, .no, .no, .no, .no, .no, .no, .no, .no, .no, .no, .no, .no, .no, .no, .no] := id rfl
theorem V_def {g : M Fl} {as : List Rv} {K : Rv → List Rv → Prop} : WF (defFn n g as) K = WZ n as fun S => W g S fun fl S => endK as K S fl := by
  rw [WF_def]; unfold WZ; congr 1
theorem endK_nx {as : List Rv} {K : Rv → List Rv → Prop} : endK as K S .nx = WL (lentOf S 0 as) fun as' => K (.val .non) as' := id rfl
theorem endK_rt {as : List Rv} {K : Rv → List Rv → Prop} : endK as K S (.rt pv) = WL (lentOf S 0 as) fun as' => WL (retOf S pv) fun r => K r as' := id rfl
/-! calls -/
noncomputable def asK (k : Rv → Prop) : Sv → Prop
  | .val d => k (.val d)
  | .own o _ => k (.own o)
  | .no => False
  | .cb f => k (.cb f)
theorem asK_v {k : Rv → Prop} : asK k (.val d) = k (.val d) := id rfl
theorem asK_c {k : Rv → Prop} {f : CF} : asK k (.cb f) = k (.cb f) := id rfl
theorem asK_o {k : Rv → Prop} : asK k (.own o b) = k (.own o) := id rfl
noncomputable def kSK (i : Nat) (A : Slots → (List AK → Slots → Prop) → Prop) (S : Slots) (K : List AK → Slots → Prop) : Sv → Prop
  | .no => False
  | _ => A S fun r S2 => K (.s i :: r) S2
theorem kSK_v {A : Slots → (List AK → Slots → Prop) → Prop} {K : List AK → Slots → Prop} : kSK i A S K (.val d) = A S fun r S2 => K (.s i :: r) S2 := id rfl
theorem kSK_c {A : Slots → (List AK → Slots → Prop) → Prop} {K : List AK → Slots → Prop} {f : CF} : kSK i A S K (.cb f) = A S fun r S2 => K (.s i :: r) S2 := id rfl
theorem kSK_o {A : Slots → (List AK → Slots → Prop) → Prop} {K : List AK → Slots → Prop} : kSK i A S K (.own o b) = A S fun r S2 => K (.s i :: r) S2 := id rfl
theorem V_kS {gr : M (List AK)} {K : List AK → Slots → Prop} : W (kS i gr) S K = WS i S (kSK i (W gr) S K) := by
  unfold WS
  cases h : S[i]? with
  | none => unfold W kS; first | (simp only [h]; done) | (simp only [h]; rfl)
  | some sv => cases sv with
    | no => unfold W kS; simp only [h]; rfl
    | val d => exact W_kSV h
    | cb f => exact W_kSC h
    | own o b => exact W_kSO h
/-- the arguments, those behind them -/
noncomputable def WA (S : Slots) (a : List AK) (k : List Rv → Prop) : Prop := WL (asOfs S a) k
theorem WA_n {k : List Rv → Prop} : WA S [] k = k [] := id rfl
theorem WA_v {r : List AK} {k : List Rv → Prop} : WA S (.v d :: r) k = WA S r fun as => k (.val d :: as) := by
  have e : asOfs S (.v d :: r) = match asOf S (.v d), asOfs S r with
      | some a, some as => some (a :: as)
      | _, _ => none := id rfl
  unfold WA
  rw [e]
  cases asOfs S r <;> rfl
theorem WA_s {r : List AK} {k : List Rv → Prop} : WA S (.s i :: r) k = WS i S (asK fun a => WA S r fun as => k (a :: as)) := by
  have e : asOfs S (.s i :: r) = match asOf S (.s i), asOfs S r with
      | some a, some as => some (a :: as)
      | _, _ => none := id rfl
  have e2 : asOf S (.s i) = match S[i]? with
    | some (.own o _) => some (.own o)
    | some (.val d) => some (.val d)
    | some (.cb f) => some (.cb f)
    | _ => none := id rfl
  unfold WA
  rw [e, e2]
  unfold WS
  cases h : S[i]? with
  | none => rfl
  | some sv => cases sv <;> cases asOfs S r <;> rfl
theorem WA_pd {r : List AK} {k : List Rv → Prop} : WA S (akOf (.d d) :: r) k = WA S r fun as => k (.val d :: as) := WA_v
theorem WA_ps {r : List AK} {k : List Rv → Prop} : WA S (akOf (.sl i) :: r) k = WS i S (asK fun a => WA S r fun as => k (a :: as)) := WA_s
theorem WA_an {a : List AK} {k : List Rv → Prop} : WA S ([] ++ a) k = WA S a k := id rfl
theorem WA_av {r a : List AK} {k : List Rv → Prop} : WA S (.v d :: r ++ a) k = WA S (r ++ a) fun as => k (.val d :: as) := WA_v
theorem WA_as {r a : List AK} {k : List Rv → Prop} : WA S (.s i :: r ++ a) k = WS i S (asK fun x => WA S (r ++ a) fun as => k (x :: as)) := WA_s
theorem WA_apd {r a : List AK} {k : List Rv → Prop} : WA S (akOf (.d d) :: r ++ a) k = WA S (r ++ a) fun as => k (.val d :: as) := WA_v
theorem WA_aps {r a : List AK} {k : List Rv → Prop} : WA S (akOf (.sl i) :: r ++ a) k = WS i S (asK fun x => WA S (r ++ a) fun as => k (x :: as)) := WA_s
/-- what was lent, put back -/
noncomputable def WPB (a : List AK) (as : List Rv) (S : Slots) (k : Slots → Prop) : Prop := k (putBack S a as)
theorem WPB_n {k : Slots → Prop} {as : List Rv} : WPB [] as S k = k S := id rfl
theorem WPB_v {r : List AK} {a : Rv} {as : List Rv} {k : Slots → Prop} : WPB (.v d :: r) (a :: as) S k = WPB r as S k := id rfl
theorem WPB_s {r : List AK} {as : List Rv} {b2 : Bool} {o2 : Ov} {k : Slots → Prop} (h : S[i]? = some (.own o2 b2)) : WPB (.s i :: r) (.own o :: as) S k = WPB r as S fun S' => WP i (.own o b2) S' k := by
  have e : putBack S (.s i :: r) (.own o :: as) = match S[i]? with
    | some (.own _ b) => (putBack S r as).set i (.own o b)
    | _ => putBack S r as := id rfl
  unfold WPB WP
  rw [e, h]
theorem WPB_sv {r : List AK} {as : List Rv} {k : Slots → Prop} : WPB (.s i :: r) (.val d :: as) S k = WPB r as S k := id rfl
theorem WPB_sc {f : CF} {r : List AK} {as : List Rv} {k : Slots → Prop} : WPB (.s i :: r) (.cb f :: as) S k = WPB r as S k := id rfl
theorem WPB_asc {f : CF} {r c : List AK} {as : List Rv} {k : Slots → Prop} : WPB (.s i :: r ++ c) (.cb f :: as) S k = WPB (r ++ c) as S k := id rfl
theorem WPB_pd {r : List AK} {a : Rv} {as : List Rv} {k : Slots → Prop} : WPB (akOf (.d d) :: r) (a :: as) S k = WPB r as S k := id rfl
theorem WPB_psv {r : List AK} {as : List Rv} {k : Slots → Prop} : WPB (akOf (.sl i) :: r) (.val d :: as) S k = WPB r as S k := id rfl
theorem WPB_an {a : List AK} {as : List Rv} {k : Slots → Prop} : WPB ([] ++ a) as S k = WPB a as S k := id rfl
theorem WPB_av {r c : List AK} {a : Rv} {as : List Rv} {k : Slots → Prop} : WPB (.v d :: r ++ c) (a :: as) S k = WPB (r ++ c) as S k := id rfl
theorem WPB_asv {r c : List AK} {as : List Rv} {k : Slots → Prop} : WPB (.s i :: r ++ c) (.val d :: as) S k = WPB (r ++ c) as S k := id rfl
theorem WPB_apd {r c : List AK} {a : Rv} {as : List Rv} {k : Slots → Prop} : WPB (akOf (.d d) :: r ++ c) (a :: as) S k = WPB (r ++ c) as S k := id rfl
theorem WPB_apsv {r c : List AK} {as : List Rv} {k : Slots → Prop} : WPB (akOf (.sl i) :: r ++ c) (.val d :: as) S k = WPB (r ++ c) as S k := id rfl
theorem WPB_so_0 {o2 : Ov} {r : List AK} {as : List Rv} {k : Slots → Prop} : WPB (.s 0 :: r) (.own o :: as) (.own o2 b :: S) k = WPB r as (.own o2 b :: S) fun S' => WP 0 (.own o b) S' k := WPB_s (o2 := o2) rfl
theorem WPB_pso_0 {o2 : Ov} {r : List AK} {as : List Rv} {k : Slots → Prop} : WPB (akOf (.sl 0) :: r) (.own o :: as) (.own o2 b :: S) k = WPB r as (.own o2 b :: S) fun S' => WP 0 (.own o b) S' k := WPB_s (o2 := o2) rfl
theorem WPB_aso_0 {o2 : Ov} {r c : List AK} {as : List Rv} {k : Slots → Prop} : WPB (.s 0 :: r ++ c) (.own o :: as) (.own o2 b :: S) k = WPB (r ++ c) as (.own o2 b :: S) fun S' => WP 0 (.own o b) S' k := WPB_s (o2 := o2) rfl
theorem WPB_apso_0 {o2 : Ov} {r c : List AK} {as : List Rv} {k : Slots → Prop} : WPB (akOf (.sl 0) :: r ++ c) (.own o :: as) (.own o2 b :: S) k = WPB (r ++ c) as (.own o2 b :: S) fun S' => WP 0 (.own o b) S' k := WPB_s (o2 := o2) rfl
theorem WPB_so_1 {x0 : Sv} {o2 : Ov} {r : List AK} {as : List Rv} {k : Slots → Prop} : WPB (.s 1 :: r) (.own o :: as) (x0 :: .own o2 b :: S) k = WPB r as (x0 :: .own o2 b :: S) fun S' => WP 1 (.own o b) S' k := WPB_s (o2 := o2) rfl
theorem WPB_pso_1 {x0 : Sv} {o2 : Ov} {r : List AK} {as : List Rv} {k : Slots → Prop} : WPB (akOf (.sl 1) :: r) (.own o :: as) (x0 :: .own o2 b :: S) k = WPB r as (x0 :: .own o2 b :: S) fun S' => WP 1 (.own o b) S' k := WPB_s (o2 := o2) rfl
theorem WPB_aso_1 {x0 : Sv} {o2 : Ov} {r c : List AK} {as : List Rv} {k : Slots → Prop} : WPB (.s 1 :: r ++ c) (.own o :: as) (x0 :: .own o2 b :: S) k = WPB (r ++ c) as (x0 :: .own o2 b :: S) fun S' => WP 1 (.own o b) S' k := WPB_s (o2 := o2) rfl
theorem WPB_apso_1 {x0 : Sv} {o2 : Ov} {r c : List AK} {as : List Rv} {k : Slots → Prop} : WPB (akOf (.sl 1) :: r ++ c) (.own o :: as) (x0 :: .own o2 b :: S) k = WPB (r ++ c) as (x0 :: .own o2 b :: S) fun S' => WP 1 (.own o b) S' k := WPB_s (o2 := o2) rfl
theorem WPB_so_2 {x0 x1 : Sv} {o2 : Ov} {r : List AK} {as : List Rv} {k : Slots → Prop} : WPB (.s 2 :: r) (.own o :: as) (x0 :: x1 :: .own o2 b :: S) k = WPB r as (x0 :: x1 :: .own o2 b :: S) fun S' => WP 2 (.own o b) S' k := WPB_s (o2 := o2) rfl
theorem WPB_pso_2 {x0 x1 : Sv} {o2 : Ov} {r : List AK} {as : List Rv} {k : Slots → Prop} : WPB (akOf (.sl 2) :: r) (.own o :: as) (x0 :: x1 :: .own o2 b :: S) k = WPB r as (x0 :: x1 :: .own o2 b :: S) fun S' => WP 2 (.own o b) S' k := WPB_s (o2 := o2) rfl
theorem WPB_aso_2 {x0 x1 : Sv} {o2 : Ov} {r c : List AK} {as : List Rv} {k : Slots → Prop} : WPB (.s 2 :: r ++ c) (.own o :: as) (x0 :: x1 :: .own o2 b :: S) k = WPB (r ++ c) as (x0 :: x1 :: .own o2 b :: S) fun S' => WP 2 (.own o b) S' k := WPB_s (o2 := o2) rfl
theorem WPB_apso_2 {x0 x1 : Sv} {o2 : Ov} {r c : List AK} {as : List Rv} {k : Slots → Prop} : WPB (akOf (.sl 2) :: r ++ c) (.own o :: as) (x0 :: x1 :: .own o2 b :: S) k = WPB (r ++ c) as (x0 :: x1 :: .own o2 b :: S) fun S' => WP 2 (.own o b) S' k := WPB_s (o2 := o2) rfl
theorem WPB_so_3 {x0 x1 x2 : Sv} {o2 : Ov} {r : List AK} {as : List Rv} {k : Slots → Prop} : WPB (.s 3 :: r) (.own o :: as) (x0 :: x1 :: x2 :: .own o2 b :: S) k = WPB r as (x0 :: x1 :: x2 :: .own o2 b :: S) fun S' => WP 3 (.own o b) S' k := WPB_s (o2 := o2) rfl
theorem WPB_pso_3 {x0 x1 x2 : Sv} {o2 : Ov} {r : List AK} {as : List Rv} {k : Slots → Prop} : WPB (akOf (.sl 3) :: r) (.own o :: as) (x0 :: x1 :: x2 :: .own o2 b :: S) k = WPB r as (x0 :: x1 :: x2 :: .own o2 b :: S) fun S' => WP 3 (.own o b) S' k := WPB_s (o2 := o2) rfl
theorem WPB_aso_3 {x0 x1 x2 : Sv} {o2 : Ov} {r c : List AK} {as : List Rv} {k : Slots → Prop} : WPB (.s 3 :: r ++ c) (.own o :: as) (x0 :: x1 :: x2 :: .own o2 b :: S) k = WPB (r ++ c) as (x0 :: x1 :: x2 :: .own o2 b :: S) fun S' => WP 3 (.own o b) S' k := WPB_s (o2 := o2) rfl
theorem WPB_apso_3 {x0 x1 x2 : Sv} {o2 : Ov} {r c : List AK} {as : List Rv} {k : Slots → Prop} : WPB (akOf (.sl 3) :: r ++ c) (.own o :: as) (x0 :: x1 :: x2 :: .own o2 b :: S) k = WPB (r ++ c) as (x0 :: x1 :: x2 :: .own o2 b :: S) fun S' => WP 3 (.own o b) S' k := WPB_s (o2 := o2) rfl
theorem WPB_so_4 {x0 x1 x2 x3 : Sv} {o2 : Ov} {r : List AK} {as : List Rv} {k : Slots → Prop} : WPB (.s 4 :: r) (.own o :: as) (x0 :: x1 :: x2 :: x3 :: .own o2 b :: S) k = WPB r as (x0 :: x1 :: x2 :: x3 :: .own o2 b :: S) fun S' => WP 4 (.own o b) S' k := WPB_s (o2 := o2) rfl
theorem WPB_pso_4 {x0 x1 x2 x3 : Sv} {o2 : Ov} {r : List AK} {as : List Rv} {k : Slots → Prop} : WPB (akOf (.sl 4) :: r) (.own o :: as) (x0 :: x1 :: x2 :: x3 :: .own o2 b :: S) k = WPB r as (x0 :: x1 :: x2 :: x3 :: .own o2 b :: S) fun S' => WP 4 (.own o b) S' k := WPB_s (o2 := o2) rfl
theorem WPB_aso_4 {x0 x1 x2 x3 : Sv} {o2 : Ov} {r c : List AK} {as : List Rv} {k : Slots → Prop} : WPB (.s 4 :: r ++ c) (.own o :: as) (x0 :: x1 :: x2 :: x3 :: .own o2 b :: S) k = WPB (r ++ c) as (x0 :: x1 :: x2 :: x3 :: .own o2 b :: S) fun S' => WP 4 (.own o b) S' k := WPB_s (o2 := o2) rfl
theorem WPB_apso_4 {x0 x1 x2 x3 : Sv} {o2 : Ov} {r c : List AK} {as : List Rv} {k : Slots → Prop} : WPB (akOf (.sl 4) :: r ++ c) (.own o :: as) (x0 :: x1 :: x2 :: x3 :: .own o2 b :: S) k = WPB (r ++ c) as (x0 :: x1 :: x2 :: x3 :: .own o2 b :: S) fun S' => WP 4 (.own o b) S' k := WPB_s (o2 := o2) rfl
theorem WPB_so_5 {x0 x1 x2 x3 x4 : Sv} {o2 : Ov} {r : List AK} {as : List Rv} {k : Slots → Prop} : WPB (.s 5 :: r) (.own o :: as) (x0 :: x1 :: x2 :: x3 :: x4 :: .own o2 b :: S) k = WPB r as (x0 :: x1 :: x2 :: x3 :: x4 :: .own o2 b :: S) fun S' => WP 5 (.own o b) S' k := WPB_s (o2 := o2) rfl
theorem WPB_pso_5 {x0 x1 x2 x3 x4 : Sv} {o2 : Ov} {r : List AK} {as : List Rv} {k : Slots → Prop} : WPB (akOf (.sl 5) :: r) (.own o :: as) (x0 :: x1 :: x2 :: x3 :: x4 :: .own o2 b :: S) k = WPB r as (x0 :: x1 :: x2 :: x3 :: x4 :: .own o2 b :: S) fun S' => WP 5 (.own o b) S' k := WPB_s (o2 := o2) rfl
theorem WPB_aso_5 {x0 x1 x2 x3 x4 : Sv} {o2 : Ov} {r c : List AK} {as : List Rv} {k : Slots → Prop} : WPB (.s 5 :: r ++ c) (.own o :: as) (x0 :: x1 :: x2 :: x3 :: x4 :: .own o2 b :: S) k = WPB (r ++ c) as (x0 :: x1 :: x2 :: x3 :: x4 :: .own o2 b :: S) fun S' => WP 5 (.own o b) S' k := WPB_s (o2 := o2) rfl
theorem WPB_apso_5 {x0 x1 x2 x3 x4 : Sv} {o2 : Ov} {r c : List AK} {as : List Rv} {k : Slots → Prop} : WPB (akOf (.sl 5) :: r ++ c) (.own o :: as) (x0 :: x1 :: x2 :: x3 :: x4 :: .own o2 b :: S) k = WPB (r ++ c) as (x0 :: x1 :: x2 :: x3 :: x4 :: .own o2 b :: S) fun S' => WP 5 (.own o b) S' k := WPB_s (o2 := o2) rfl
theorem WPB_so_6 {x0 x1 x2 x3 x4 x5 : Sv} {o2 : Ov} {r : List AK} {as : List Rv} {k : Slots → Prop} : WPB (.s 6 :: r) (.own o :: as) (x0 :: x1 :: x2 :: x3 :: x4 :: x5 :: .own o2 b :: S) k = WPB r as (x0 :: x1 :: x2 :: x3 :: x4 :: x5 :: .own o2 b :: S) fun S' => WP 6 (.own o b) S' k := WPB_s (o2 := o2) rfl
theorem WPB_pso_6 {x0 x1 x2 x3 x4 x5 : Sv} {o2 : Ov} {r : List AK} {as : List Rv} {k : Slots → Prop} : WPB (akOf (.sl 6) :: r) (.own o :: as) (x0 :: x1 :: x2 :: x3 :: x4 :: x5 :: .own o2 b :: S) k = WPB r as (x0 :: x1 :: x2 :: x3 :: x4 :: x5 :: .own o2 b :: S) fun S' => WP 6 (.own o b) S' k := WPB_s (o2 := o2) rfl
theorem WPB_aso_6 {x0 x1 x2 x3 x4 x5 : Sv} {o2 : Ov} {r c : List AK} {as : List Rv} {k : Slots → Prop} : WPB (.s 6 :: r ++ c) (.own o :: as) (x0 :: x1 :: x2 :: x3 :: x4 :: x5 :: .own o2 b :: S) k = WPB (r ++ c) as (x0 :: x1 :: x2 :: x3 :: x4 :: x5 :: .own o2 b :: S) fun S' => WP 6 (.own o b) S' k := WPB_s (o2 := o2) rfl
theorem WPB_apso_6 {x0 x1 x2 x3 x4 x5 : Sv} {o2 : Ov} {r c : List AK} {as : List Rv} {k : Slots → Prop} : WPB (akOf (.sl 6) :: r ++ c) (.own o :: as) (x0 :: x1 :: x2 :: x3 :: x4 :: x5 :: .own o2 b :: S) k = WPB (r ++ c) as (x0 :: x1 :: x2 :: x3 :: x4 :: x5 :: .own o2 b :: S) fun S' => WP 6 (.own o b) S' k := WPB_s (o2 := o2) rfl
theorem WPB_so_7 {x0 x1 x2 x3 x4 x5 x6 : Sv} {o2 : Ov} {r : List AK} {as : List Rv} {k : Slots → Prop} : WPB (.s 7 :: r) (.own o :: as) (x0 :: x1 :: x2 :: x3 :: x4 :: x5 :: x6 :: .own o2 b :: S) k = WPB r as (x0 :: x1 :: x2 :: x3 :: x4 :: x5 :: x6 :: .own o2 b :: S) fun S' => WP 7 (.own o b) S' k := WPB_s (o2 := o2) rfl
theorem WPB_pso_7 {x0 x1 x2 x3 x4 x5 x6 : Sv} {o2 : Ov} {r : List AK} {as : List Rv} {k : Slots → Prop} : WPB (akOf (.sl 7) :: r) (.own o :: as) (x0 :: x1 :: x2 :: x3 :: x4 :: x5 :: x6 :: .own o2 b :: S) k = WPB r as (x0 :: x1 :: x2 :: x3 :: x4 :: x5 :: x6 :: .own o2 b :: S) fun S' => WP 7 (.own o b) S' k := WPB_s (o2 := o2) rfl
theorem WPB_aso_7 {x0 x1 x2 x3 x4 x5 x6 : Sv} {o2 : Ov} {r c : List AK} {as : List Rv} {k : Slots → Prop} : WPB (.s 7 :: r ++ c) (.own o :: as) (x0 :: x1 :: x2 :: x3 :: x4 :: x5 :: x6 :: .own o2 b :: S) k = WPB (r ++ c) as (x0 :: x1 :: x2 :: x3 :: x4 :: x5 :: x6 :: .own o2 b :: S) fun S' => WP 7 (.own o b) S' k := WPB_s (o2 := o2) rfl
theorem WPB_apso_7 {x0 x1 x2 x3 x4 x5 x6 : Sv} {o2 : Ov} {r c : List AK} {as : List Rv} {k : Slots → Prop} : WPB (akOf (.sl 7) :: r ++ c) (.own o :: as) (x0 :: x1 :: x2 :: x3 :: x4 :: x5 :: x6 :: .own o2 b :: S) k = WPB (r ++ c) as (x0 :: x1 :: x2 :: x3 :: x4 :: x5 :: x6 :: .own o2 b :: S) fun S' => WP 7 (.own o b) S' k := WPB_s (o2 := o2) rfl
theorem WPB_so_8 {x0 x1 x2 x3 x4 x5 x6 x7 : Sv} {o2 : Ov} {r : List AK} {as : List Rv} {k : Slots → Prop} : WPB (.s 8 :: r) (.own o :: as) (x0 :: x1 :: x2 :: x3 :: x4 :: x5 :: x6 :: x7 :: .own o2 b :: S) k = WPB r as (x0 :: x1 :: x2 :: x3 :: x4 :: x5 :: x6 :: x7 :: .own o2 b :: S) fun S' => WP 8 (.own o b) S' k := WPB_s (o2 := o2) rfl
theorem WPB_pso_8 {x0 x1 x2 x3 x4 x5 x6 x7 : Sv} {o2 : Ov} {r : List AK} {as : List Rv} {k : Slots → Prop} : WPB (akOf (.sl 8) :: r) (.own o :: as) (x0 :: x1 :: x2 :: x3 :: x4 :: x5 :: x6 :: x7 :: .own o2 b :: S) k = WPB r as (x0 :: x1 :: x2 :: x3 :: x4 :: x5 :: x6 :: x7 :: .own o2 b :: S) fun S' => WP 8 (.own o b) S' k := WPB_s (o2 := o2) rfl
theorem WPB_aso_8 {x0 x1 x2 x3 x4 x5 x6 x7 : Sv} {o2 : Ov} {r c : List AK} {as : List Rv} {k : Slots → Prop} : WPB (.s 8 :: r ++ c) (.own o :: as) (x0 :: x1 :: x2 :: x3 :: x4 :: x5 :: x6 :: x7 :: .own o2 b :: S) k = WPB (r ++ c) as (x0 :: x1 :: x2 :: x3 :: x4 :: x5 :: x6 :: x7 :: .own o2 b :: S) fun S' => WP 8 (.own o b) S' k := WPB_s (o2 := o2) rfl
theorem WPB_apso_8 {x0 x1 x2 x3 x4 x5 x6 x7 : Sv} {o2 : Ov} {r c : List AK} {as : List Rv} {k : Slots → Prop} : WPB (akOf (.sl 8) :: r ++ c) (.own o :: as) (x0 :: x1 :: x2 :: x3 :: x4 :: x5 :: x6 :: x7 :: .own o2 b :: S) k = WPB (r ++ c) as (x0 :: x1 :: x2 :: x3 :: x4 :: x5 :: x6 :: x7 :: .own o2 b :: S) fun S' => WP 8 (.own o b) S' k := WPB_s (o2 := o2) rfl
theorem WPB_so_9 {x0 x1 x2 x3 x4 x5 x6 x7 x8 : Sv} {o2 : Ov} {r : List AK} {as : List Rv} {k : Slots → Prop} : WPB (.s 9 :: r) (.own o :: as) (x0 :: x1 :: x2 :: x3 :: x4 :: x5 :: x6 :: x7 :: x8 :: .own o2 b :: S) k = WPB r as (x0 :: x1 :: x2 :: x3 :: x4 :: x5 :: x6 :: x7 :: x8 :: .own o2 b :: S) fun S' => WP 9 (.own o b) S' k := WPB_s (o2 := o2) rfl
theorem WPB_pso_9 {x0 x1 x2 x3 x4 x5 x6 x7 x8 : Sv} {o2 : Ov} {r : List AK} {as : List Rv} {k : Slots → Prop} : WPB (akOf (.sl 9) :: r) (.own o :: as) (x0 :: x1 :: x2 :: x3 :: x4 :: x5 :: x6 :: x7 :: x8 :: .own o2 b :: S) k = WPB r as (x0 :: x1 :: x2 :: x3 :: x4 :: x5 :: x6 :: x7 :: x8 :: .own o2 b :: S) fun S' => WP 9 (.own o b) S' k := WPB_s (o2 := o2) rfl
theorem WPB_aso_9 {x0 x1 x2 x3 x4 x5 x6 x7 x8 : Sv} {o2 : Ov} {r c : List AK} {as : List Rv} {k : Slots → Prop} : WPB (.s 9 :: r ++ c) (.own o :: as) (x0 :: x1 :: x2 :: x3 :: x4 :: x5 :: x6 :: x7 :: x8 :: .own o2 b :: S) k = WPB (r ++ c) as (x0 :: x1 :: x2 :: x3 :: x4 :: x5 :: x6 :: x7 :: x8 :: .own o2 b :: S) fun S' => WP 9 (.own o b) S' k := WPB_s (o2 := o2) rfl
theorem WPB_apso_9 {x0 x1 x2 x3 x4 x5 x6 x7 x8 : Sv} {o2 : Ov} {r c : List AK} {as : List Rv} {k : Slots → Prop} : WPB (akOf (.sl 9) :: r ++ c) (.own o :: as) (x0 :: x1 :: x2 :: x3 :: x4 :: x5 :: x6 :: x7 :: x8 :: .own o2 b :: S) k = WPB (r ++ c) as (x0 :: x1 :: x2 :: x3 :: x4 :: x5 :: x6 :: x7 :: x8 :: .own o2 b :: S) fun S' => WP 9 (.own o b) S' k := WPB_s (o2 := o2) rfl
theorem WPB_so_10 {x0 x1 x2 x3 x4 x5 x6 x7 x8 x9 : Sv} {o2 : Ov} {r : List AK} {as : List Rv} {k : Slots → Prop} : WPB (.s 10 :: r) (.own o :: as) (x0 :: x1 :: x2 :: x3 :: x4 :: x5 :: x6 :: x7 :: x8 :: x9 :: .own o2 b :: S) k = WPB r as (x0 :: x1 :: x2 :: x3 :: x4 :: x5 :: x6 :: x7 :: x8 :: x9 :: .own o2 b :: S) fun S' => WP 10 (.own o b) S' k := WPB_s (o2 := o2) rfl
theorem WPB_pso_10 {x0 x1 x2 x3 x4 x5 x6 x7 x8 x9 : Sv} {o2 : Ov} {r : List AK} {as : List Rv} {k : Slots → Prop} : WPB (akOf (.sl 10) :: r) (.own o :: as) (x0 :: x1 :: x2 :: x3 :: x4 :: x5 :: x6 :: x7 :: x8 :: x9 :: .own o2 b :: S) k = WPB r as (x0 :: x1 :: x2 :: x3 :: x4 :: x5 :: x6 :: x7 :: x8 :: x9 :: .own o2 b :: S) fun S' => WP 10 (.own o b) S' k := WPB_s (o2 := o2) rfl
theorem WPB_aso_10 {x0 x1 x2 x3 x4 x5 x6 x7 x8 x9 : Sv} {o2 : Ov} {r c : List AK} {as : List Rv} {k : Slots → Prop} : WPB (.s 10 :: r ++ c) (.own o :: as) (x0 :: x1 :: x2 :: x3 :: x4 :: x5 :: x6 :: x7 :: x8 :: x9 :: .own o2 b :: S) k = WPB (r ++ c) as (x0 :: x1 :: x2 :: x3 :: x4 :: x5 :: x6 :: x7 :: x8 :: x9 :: .own o2 b :: S) fun S' => WP 10 (.own o b) S' k := WPB_s (o2 := o2) rfl
theorem WPB_apso_10 {x0 x1 x2 x3 x4 x5 x6 x7 x8 x9 : Sv} {o2 : Ov} {r c : List AK} {as : List Rv} {k : Slots → Prop} : WPB (akOf (.sl 10) :: r ++ c) (.own o :: as) (x0 :: x1 :: x2 :: x3 :: x4 :: x5 :: x6 :: x7 :: x8 :: x9 :: .own o2 b :: S) k = WPB (r ++ c) as (x0 :: x1 :: x2 :: x3 :: x4 :: x5 :: x6 :: x7 :: x8 :: x9 :: .own o2 b :: S) fun S' => WP 10 (.own o b) S' k := WPB_s (o2 := o2) rfl
theorem WPB_so_11 {x0 x1 x2 x3 x4 x5 x6 x7 x8 x9 x10 : Sv} {o2 : Ov} {r : List AK} {as : List Rv} {k : Slots → Prop} : WPB (.s 11 :: r) (.own o :: as) (x0 :: x1 :: x2 :: x3 :: x4 :: x5 :: x6 :: x7 :: x8 :: x9 :: x10 :: .own o2 b :: S) k = WPB r as (x0 :: x1 :: x2 :: x3 :: x4 :: x5 :: x6 :: x7 :: x8 :: x9 :: x10 :: .own o2 b :: S) fun S' => WP 11 (.own o b) S' k := WPB_s (o2 := o2) rfl
theorem WPB_pso_11 {x0 x1 x2 x3 x4 x5 x6 x7 x8 x9 x10 : Sv} {o2 : Ov} {r : List AK} {as : List Rv} {k : Slots → Prop} : WPB (akOf (.sl 11) :: r) (.own o :: as) (x0 :: x1 :: x2 :: x3 :: x4 :: x5 :: x6 :: x7 :: x8 :: x9 :: x10 :: .own o2 b :: S) k = WPB r as (x0 :: x1 :: x2 :: x3 :: x4 :: x5 :: x6 :: x7 :: x8 :: x9 :: x10 :: .own o2 b :: S) fun S' => WP 11 (.own o b) S' k := WPB_s (o2 := o2) rfl
theorem WPB_aso_11 {x0 x1 x2 x3 x4 x5 x6 x7 x8 x9 x10 : Sv} {o2 : Ov} {r c : List AK} {as : List Rv} {k : Slots → Prop} : WPB (.s 11 :: r ++ c) (.own o :: as) (x0 :: x1 :: x2 :: x3 :: x4 :: x5 :: x6 :: x7 :: x8 :: x9 :: x10 :: .own o2 b :: S) k = WPB (r ++ c) as (x0 :: x1 :: x2 :: x3 :: x4 :: x5 :: x6 :: x7 :: x8 :: x9 :: x10 :: .own o2 b :: S) fun S' => WP 11 (.own o b) S' k := WPB_s (o2 := o2) rfl
theorem WPB_apso_11 {x0 x1 x2 x3 x4 x5 x6 x7 x8 x9 x10 : Sv} {o2 : Ov} {r c : List AK} {as : List Rv} {k : Slots → Prop} : WPB (akOf (.sl 11) :: r ++ c) (.own o :: as) (x0 :: x1 :: x2 :: x3 :: x4 :: x5 :: x6 :: x7 :: x8 :: x9 :: x10 :: .own o2 b :: S) k = WPB (r ++ c) as (x0 :: x1 :: x2 :: x3 :: x4 :: x5 :: x6 :: x7 :: x8 :: x9 :: x10 :: .own o2 b :: S) fun S' => WP 11 (.own o b) S' k := WPB_s (o2 := o2) rfl
theorem WPB_so_12 {x0 x1 x2 x3 x4 x5 x6 x7 x8 x9 x10 x11 : Sv} {o2 : Ov} {r : List AK} {as : List Rv} {k : Slots → Prop} : WPB (.s 12 :: r) (.own o :: as) (x0 :: x1 :: x2 :: x3 :: x4 :: x5 :: x6 :: x7 :: x8 :: x9 :: x10 :: x11 :: .own o2 b :: S) k = WPB r as (x0 :: x1 :: x2 :: x3 :: x4 :: x5 :: x6 :: x7 :: x8 :: x9 :: x10 :: x11 :: .own o2 b :: S) fun S' => WP 12 (.own o b) S' k := WPB_s (o2 := o2) rfl
theorem WPB_pso_12 {x0 x1 x2 x3 x4 x5 x6 x7 x8 x9 x10 x11 : Sv} {o2 : Ov} {r : List AK} {as : List Rv} {k : Slots → Prop} : WPB (akOf (.sl 12) :: r) (.own o :: as) (x0 :: x1 :: x2 :: x3 :: x4 :: x5 :: x6 :: x7 :: x8 :: x9 :: x10 :: x11 :: .own o2 b :: S) k = WPB r as (x0 :: x1 :: x2 :: x3 :: x4 :: x5 :: x6 :: x7 :: x8 :: x9 :: x10 :: x11 :: .own o2 b :: S) fun S' => WP 12 (.own o b) S' k := WPB_s (o2 := o2) rfl
theorem WPB_aso_12 {x0 x1 x2 x3 x4 x5 x6 x7 x8 x9 x10 x11 : Sv} {o2 : Ov} {r c : List AK} {as : List Rv} {k : Slots → Prop} : WPB (.s 12 :: r ++ c) (.own o :: as) (x0 :: x1 :: x2 :: x3 :: x4 :: x5 :: x6 :: x7 :: x8 :: x9 :: x10 :: x11 :: .own o2 b :: S) k = WPB (r ++ c) as (x0 :: x1 :: x2 :: x3 :: x4 :: x5 :: x6 :: x7 :: x8 :: x9 :: x10 :: x11 :: .own o2 b :: S) fun S' => WP 12 (.own o b) S' k := WPB_s (o2 := o2) rfl
theorem WPB_apso_12 {x0 x1 x2 x3 x4 x5 x6 x7 x8 x9 x10 x11 : Sv} {o2 : Ov} {r c : List AK} {as : List Rv} {k : Slots → Prop} : WPB (akOf (.sl 12) :: r ++ c) (.own o :: as) (x0 :: x1 :: x2 :: x3 :: x4 :: x5 :: x6 :: x7 :: x8 :: x9 :: x10 :: x11 :: .own o2 b :: S) k = WPB (r ++ c) as (x0 :: x1 :: x2 :: x3 :: x4 :: x5 :: x6 :: x7 :: x8 :: x9 :: x10 :: x11 :: .own o2 b :: S) fun S' => WP 12 (.own o b) S' k := WPB_s (o2 := o2) rfl
theorem WPB_so_13 {x0 x1 x2 x3 x4 x5 x6 x7 x8 x9 x10 x11 x12 : Sv} {o2 : Ov} {r : List AK} {as : List Rv} {k : Slots → Prop} : WPB (.s 13 :: r) (.own o :: as) (x0 :: x1 :: x2 :: x3 :: x4 :: x5 :: x6 :: x7 :: x8 :: x9 :: x10 :: x11 :: x12 :: .own o2 b :: S) k = WPB r as (x0 :: x1 :: x2 :: x3 :: x4 :: x5 :: x6 :: x7 :: x8 :: x9 :: x10 :: x11 :: x12 :: .own o2 b :: S) fun S' => WP 13 (.own o b) S' k := WPB_s (o2 := o2) rfl
theorem WPB_pso_13 {x0 x1 x2 x3 x4 x5 x6 x7 x8 x9 x10 x11 x12 : Sv} {o2 : Ov} {r : List AK} {as : List Rv} {k : Slots → Prop} : WPB (akOf (.sl 13) :: r) (.own o :: as) (x0 :: x1 :: x2 :: x3 :: x4 :: x5 :: x6 :: x7 :: x8 :: x9 :: x10 :: x11 :: x12 :: .own o2 b :: S) k = WPB r as (x0 :: x1 :: x2 :: x3 :: x4 :: x5 :: x6 :: x7 :: x8 :: x9 :: x10 :: x11 :: x12 :: .own o2 b :: S) fun S' => WP 13 (.own o b) S' k := WPB_s (o2 := o2) rfl
theorem WPB_aso_13 {x0 x1 x2 x3 x4 x5 x6 x7 x8 x9 x10 x11 x12 : Sv} {o2 : Ov} {r c : List AK} {as : List Rv} {k : Slots → Prop} : WPB (.s 13 :: r ++ c) (.own o :: as) (x0 :: x1 :: x2 :: x3 :: x4 :: x5 :: x6 :: x7 :: x8 :: x9 :: x10 :: x11 :: x12 :: .own o2 b :: S) k = WPB (r ++ c) as (x0 :: x1 :: x2 :: x3 :: x4 :: x5 :: x6 :: x7 :: x8 :: x9 :: x10 :: x11 :: x12 :: .own o2 b :: S) fun S' => WP 13 (.own o b) S' k := WPB_s (o2 := o2) rfl
theorem WPB_apso_13 {x0 x1 x2 x3 x4 x5 x6 x7 x8 x9 x10 x11 x12 : Sv} {o2 : Ov} {r c : List AK} {as : List Rv} {k : Slots → Prop} : WPB (akOf (.sl 13) :: r ++ c) (.own o :: as) (x0 :: x1 :: x2 :: x3 :: x4 :: x5 :: x6 :: x7 :: x8 :: x9 :: x10 :: x11 :: x12 :: .own o2 b :: S) k = WPB (r ++ c) as (x0 :: x1 :: x2 :: x3 :: x4 :: x5 :: x6 :: x7 :: x8 :: x9 :: x10 :: x11 :: x12 :: .own o2 b :: S) fun S' => WP 13 (.own o b) S' k := WPB_s (o2 := o2) rfl
theorem WPB_so_14 {x0 x1 x2 x3 x4 x5 x6 x7 x8 x9 x10 x11 x12 x13 : Sv} {o2 : Ov} {r : List AK} {as : List Rv} {k : Slots → Prop} : WPB (.s 14 :: r) (.own o :: as) (x0 :: x1 :: x2 :: x3 :: x4 :: x5 :: x6 :: x7 :: x8 :: x9 :: x10 :: x11 :: x12 :: x13 :: .own o2 b :: S) k = WPB r as (x0 :: x1 :: x2 :: x3 :: x4 :: x5 :: x6 :: x7 :: x8 :: x9 :: x10 :: x11 :: x12 :: x13 :: .own o2 b :: S) fun S' => WP 14 (.own o b) S' k := WPB_s (o2 := o2) rfl
theorem WPB_pso_14 {x0 x1 x2 x3 x4 x5 x6 x7 x8 x9 x10 x11 x12 x13 : Sv} {o2 : Ov} {r : List AK} {as : List Rv} {k : Slots → Prop} : WPB (akOf (.sl 14) :: r) (.own o :: as) (x0 :: x1 :: x2 :: x3 :: x4 :: x5 :: x6 :: x7 :: x8 :: x9 :: x10 :: x11 :: x12 :: x13 :: .own o2 b :: S) k = WPB r as (x0 :: x1 :: x2 :: x3 :: x4 :: x5 :: x6 :: x7 :: x8 :: x9 :: x10 :: x11 :: x12 :: x13 :: .own o2 b :: S) fun S' => WP 14 (.own o b) S' k := WPB_s (o2 := o2) rfl
theorem WPB_aso_14 {x0 x1 x2 x3 x4 x5 x6 x7 x8 x9 x10 x11 x12 x13 : Sv} {o2 : Ov} {r c : List AK} {as : List Rv} {k : Slots → Prop} : WPB (.s 14 :: r ++ c) (.own o :: as) (x0 :: x1 :: x2 :: x3 :: x4 :: x5 :: x6 :: x7 :: x8 :: x9 :: x10 :: x11 :: x12 :: x13 :: .own o2 b :: S) k = WPB (r ++ c) as (x0 :: x1 :: x2 :: x3 :: x4 :: x5 :: x6 :: x7 :: x8 :: x9 :: x10 :: x11 :: x12 :: x13 :: .own o2 b :: S) fun S' => WP 14 (.own o b) S' k := WPB_s (o2 := o2) rfl
theorem WPB_apso_14 {x0 x1 x2 x3 x4 x5 x6 x7 x8 x9 x10 x11 x12 x13 : Sv} {o2 : Ov} {r c : List AK} {as : List Rv} {k : Slots → Prop} : WPB (akOf (.sl 14) :: r ++ c) (.own o :: as) (x0 :: x1 :: x2 :: x3 :: x4 :: x5 :: x6 :: x7 :: x8 :: x9 :: x10 :: x11 :: x12 :: x13 :: .own o2 b :: S) k = WPB (r ++ c) as (x0 :: x1 :: x2 :: x3 :: x4 :: x5 :: x6 :: x7 :: x8 :: x9 :: x10 :: x11 :: x12 :: x13 :: .own o2 b :: S) fun S' => WP 14 (.own o b) S' k := WPB_s (o2 := o2) rfl
theorem WPB_so_15 {x0 x1 x2 x3 x4 x5 x6 x7 x8 x9 x10 x11 x12 x13 x14 : Sv} {o2 : Ov} {r : List AK} {as : List Rv} {k : Slots → Prop} : WPB (.s 15 :: r) (.own o :: as) (x0 :: x1 :: x2 :: x3 :: x4 :: x5 :: x6 :: x7 :: x8 :: x9 :: x10 :: x11 :: x12 :: x13 :: x14 :: .own o2 b :: S) k = WPB r as (x0 :: x1 :: x2 :: x3 :: x4 :: x5 :: x6 :: x7 :: x8 :: x9 :: x10 :: x11 :: x12 :: x13 :: x14 :: .own o2 b :: S) fun S' => WP 15 (.own o b) S' k := WPB_s (o2 := o2) rfl
theorem WPB_pso_15 {x0 x1 x2 x3 x4 x5 x6 x7 x8 x9 x10 x11 x12 x13 x14 : Sv} {o2 : Ov} {r : List AK} {as : List Rv} {k : Slots → Prop} : WPB (akOf (.sl 15) :: r) (.own o :: as) (x0 :: x1 :: x2 :: x3 :: x4 :: x5 :: x6 :: x7 :: x8 :: x9 :: x10 :: x11 :: x12 :: x13 :: x14 :: .own o2 b :: S) k = WPB r as (x0 :: x1 :: x2 :: x3 :: x4 :: x5 :: x6 :: x7 :: x8 :: x9 :: x10 :: x11 :: x12 :: x13 :: x14 :: .own o2 b :: S) fun S' => WP 15 (.own o b) S' k := WPB_s (o2 := o2) rfl
theorem WPB_aso_15 {x0 x1 x2 x3 x4 x5 x6 x7 x8 x9 x10 x11 x12 x13 x14 : Sv} {o2 : Ov} {r c : List AK} {as : List Rv} {k : Slots → Prop} : WPB (.s 15 :: r ++ c) (.own o :: as) (x0 :: x1 :: x2 :: x3 :: x4 :: x5 :: x6 :: x7 :: x8 :: x9 :: x10 :: x11 :: x12 :: x13 :: x14 :: .own o2 b :: S) k = WPB (r ++ c) as (x0 :: x1 :: x2 :: x3 :: x4 :: x5 :: x6 :: x7 :: x8 :: x9 :: x10 :: x11 :: x12 :: x13 :: x14 :: .own o2 b :: S) fun S' => WP 15 (.own o b) S' k := WPB_s (o2 := o2) rfl
theorem WPB_apso_15 {x0 x1 x2 x3 x4 x5 x6 x7 x8 x9 x10 x11 x12 x13 x14 : Sv} {o2 : Ov} {r c : List AK} {as : List Rv} {k : Slots → Prop} : WPB (akOf (.sl 15) :: r ++ c) (.own o :: as) (x0 :: x1 :: x2 :: x3 :: x4 :: x5 :: x6 :: x7 :: x8 :: x9 :: x10 :: x11 :: x12 :: x13 :: x14 :: .own o2 b :: S) k = WPB (r ++ c) as (x0 :: x1 :: x2 :: x3 :: x4 :: x5 :: x6 :: x7 :: x8 :: x9 :: x10 :: x11 :: x12 :: x13 :: x14 :: .own o2 b :: S) fun S' => WP 15 (.own o b) S' k := WPB_s (o2 := o2) rfl
theorem WPB_so_16 {x0 x1 x2 x3 x4 x5 x6 x7 x8 x9 x10 x11 x12 x13 x14 x15 : Sv} {o2 : Ov} {r : List AK} {as : List Rv} {k : Slots → Prop} : WPB (.s 16 :: r) (.own o :: as) (x0 :: x1 :: x2 :: x3 :: x4 :: x5 :: x6 :: x7 :: x8 :: x9 :: x10 :: x11 :: x12 :: x13 :: x14 :: x15 :: .own o2 b :: S) k = WPB r as (x0 :: x1 :: x2 :: x3 :: x4 :: x5 :: x6 :: x7 :: x8 :: x9 :: x10 :: x11 :: x12 :: x13 :: x14 :: x15 :: .own o2 b :: S) fun S' => WP 16 (.own o b) S' k := WPB_s (o2 := o2) rfl
theorem WPB_pso_16 {x0 x1 x2 x3 x4 x5 x6 x7 x8 x9 x10 x11 x12 x13 x14 x15 : Sv} {o2 : Ov} {r : List AK} {as : List Rv} {k : Slots → Prop} : WPB (akOf (.sl 16) :: r) (.own o :: as) (x0 :: x1 :: x2 :: x3 :: x4 :: x5 :: x6 :: x7 :: x8 :: x9 :: x10 :: x11 :: x12 :: x13 :: x14 :: x15 :: .own o2 b :: S) k = WPB r as (x0 :: x1 :: x2 :: x3 :: x4 :: x5 :: x6 :: x7 :: x8 :: x9 :: x10 :: x11 :: x12 :: x13 :: x14 :: x15 :: .own o2 b :: S) fun S' => WP 16 (.own o b) S' k := WPB_s (o2 := o2) rfl
theorem WPB_aso_16 {x0 x1 x2 x3 x4 x5 x6 x7 x8 x9 x10 x11 x12 x13 x14 x15 : Sv} {o2 : Ov} {r c : List AK} {as : List Rv} {k : Slots → Prop} : WPB (.s 16 :: r ++ c) (.own o :: as) (x0 :: x1 :: x2 :: x3 :: x4 :: x5 :: x6 :: x7 :: x8 :: x9 :: x10 :: x11 :: x12 :: x13 :: x14 :: x15 :: .own o2 b :: S) k = WPB (r ++ c) as (x0 :: x1 :: x2 :: x3 :: x4 :: x5 :: x6 :: x7 :: x8 :: x9 :: x10 :: x11 :: x12 :: x13 :: x14 :: x15 :: .own o2 b :: S) fun S' => WP 16 (.own o b) S' k := WPB_s (o2 := o2) rfl
theorem WPB_apso_16 {x0 x1 x2 x3 x4 x5 x6 x7 x8 x9 x10 x11 x12 x13 x14 x15 : Sv} {o2 : Ov} {r c : List AK} {as : List Rv} {k : Slots → Prop} : WPB (akOf (.sl 16) :: r ++ c) (.own o :: as) (x0 :: x1 :: x2 :: x3 :: x4 :: x5 :: x6 :: x7 :: x8 :: x9 :: x10 :: x11 :: x12 :: x13 :: x14 :: x15 :: .own o2 b :: S) k = WPB (r ++ c) as (x0 :: x1 :: x2 :: x3 :: x4 :: x5 :: x6 :: x7 :: x8 :: x9 :: x10 :: x11 :: x12 :: x13 :: x14 :: x15 :: .own o2 b :: S) fun S' => WP 16 (.own o b) S' k := WPB_s (o2 := o2) rfl
theorem WPB_so_17 {x0 x1 x2 x3 x4 x5 x6 x7 x8 x9 x10 x11 x12 x13 x14 x15 x16 : Sv} {o2 : Ov} {r : List AK} {as : List Rv} {k : Slots → Prop} : WPB (.s 17 :: r) (.own o :: as) (x0 :: x1 :: x2 :: x3 :: x4 :: x5 :: x6 :: x7 :: x8 :: x9 :: x10 :: x11 :: x12 :: x13 :: x14 :: x15 :: x16 :: .own o2 b :: S) k = WPB r as (x0 :: x1 :: x2 :: x3 :: x4 :: x5 :: x6 :: x7 :: x8 :: x9 :: x10 :: x11 :: x12 :: x13 :: x14 :: x15 :: x16 :: .own o2 b :: S) fun S' => WP 17 (.own o b) S' k := WPB_s (o2 := o2) rfl
theorem WPB_pso_17 {x0 x1 x2 x3 x4 x5 x6 x7 x8 x9 x10 x11 x12 x13 x14 x15 x16 : Sv} {o2 : Ov} {r : List AK} {as : List Rv} {k : Slots → Prop} : WPB (akOf (.sl 17) :: r) (.own o :: as) (x0 :: x1 :: x2 :: x3 :: x4 :: x5 :: x6 :: x7 :: x8 :: x9 :: x10 :: x11 :: x12 :: x13 :: x14 :: x15 :: x16 :: .own o2 b :: S) k = WPB r as (x0 :: x1 :: x2 :: x3 :: x4 :: x5 :: x6 :: x7 :: x8 :: x9 :: x10 :: x11 :: x12 :: x13 :: x14 :: x15 :: x16 :: .own o2 b :: S) fun S' => WP 17 (.own o b) S' k := WPB_s (o2 := o2) rfl
theorem WPB_aso_17 {x0 x1 x2 x3 x4 x5 x6 x7 x8 x9 x10 x11 x12 x13 x14 x15 x16 : Sv} {o2 : Ov} {r c : List AK} {as : List Rv} {k : Slots → Prop} : WPB (.s 17 :: r ++ c) (.own o :: as) (x0 :: x1 :: x2 :: x3 :: x4 :: x5 :: x6 :: x7 :: x8 :: x9 :: x10 :: x11 :: x12 :: x13 :: x14 :: x15 :: x16 :: .own o2 b :: S) k = WPB (r ++ c) as (x0 :: x1 :: x2 :: x3 :: x4 :: x5 :: x6 :: x7 :: x8 :: x9 :: x10 :: x11 :: x12 :: x13 :: x14 :: x15 :: x16 :: .own o2 b :: S) fun S' => WP 17 (.own o b) S' k := WPB_s (o2 := o2) rfl
theorem WPB_apso_17 {x0 x1 x2 x3 x4 x5 x6 x7 x8 x9 x10 x11 x12 x13 x14 x15 x16 : Sv} {o2 : Ov} {r c : List AK} {as : List Rv} {k : Slots → Prop} : WPB (akOf (.sl 17) :: r ++ c) (.own o :: as) (x0 :: x1 :: x2 :: x3 :: x4 :: x5 :: x6 :: x7 :: x8 :: x9 :: x10 :: x11 :: x12 :: x13 :: x14 :: x15 :: x16 :: .own o2 b :: S) k = WPB (r ++ c) as (x0 :: x1 :: x2 :: x3 :: x4 :: x5 :: x6 :: x7 :: x8 :: x9 :: x10 :: x11 :: x12 :: x13 :: x14 :: x15 :: x16 :: .own o2 b :: S) fun S' => WP 17 (.own o b) S' k := WPB_s (o2 := o2) rfl
theorem WPB_so_18 {x0 x1 x2 x3 x4 x5 x6 x7 x8 x9 x10 x11 x12 x13 x14 x15 x16 x17 : Sv} {o2 : Ov} {r : List AK} {as : List Rv} {k : Slots → Prop} : WPB (.s 18 :: r) (.own o :: as) (x0 :: x1 :: x2 :: x3 :: x4 :: x5 :: x6 :: x7 :: x8 :: x9 :: x10 :: x11 :: x12 :: x13 :: x14 :: x15 :: x16 :: x17 :: .own o2 b :: S) k = WPB r as (x0 :: x1 :: x2 :: x3 :: x4 :: x5 :: x6 :: x7 :: x8 :: x9 :: x10 :: x11 :: x12 :: x13 :: x14 :: x15 :: x16 :: x17 :: .own o2 b :: S) fun S' => WP 18 (.own o b) S' k := WPB_s (o2 := o2) rfl
theorem WPB_pso_18 {x0 x1 x2 x3 x4 x5 x6 x7 x8 x9 x10 x11 x12 x13 x14 x15 x16 x17 : Sv} {o2 : Ov} {r : List AK} {as : List Rv} {k : Slots → Prop} : WPB (akOf (.sl 18) :: r) (.own o :: as) (x0 :: x1 :: x2 :: x3 :: x4 :: x5 :: x6 :: x7 :: x8 :: x9 :: x10 :: x11 :: x12 :: x13 :: x14 :: x15 :: x16 :: x17 :: .own o2 b :: S) k = WPB r as (x0 :: x1 :: x2 :: x3 :: x4 :: x5 :: x6 :: x7 :: x8 :: x9 :: x10 :: x11 :: x12 :: x13 :: x14 :: x15 :: x16 :: x17 :: .own o2 b :: S) fun S' => WP 18 (.own o b) S' k := WPB_s (o2 := o2) rfl
theorem WPB_aso_18 {x0 x1 x2 x3 x4 x5 x6 x7 x8 x9 x10 x11 x12 x13 x14 x15 x16 x17 : Sv} {o2 : Ov} {r c : List AK} {as : List Rv} {k : Slots → Prop} : WPB (.s 18 :: r ++ c) (.own o :: as) (x0 :: x1 :: x2 :: x3 :: x4 :: x5 :: x6 :: x7 :: x8 :: x9 :: x10 :: x11 :: x12 :: x13 :: x14 :: x15 :: x16 :: x17 :: .own o2 b :: S) k = WPB (r ++ c) as (x0 :: x1 :: x2 :: x3 :: x4 :: x5 :: x6 :: x7 :: x8 :: x9 :: x10 :: x11 :: x12 :: x13 :: x14 :: x15 :: x16 :: x17 :: .own o2 b :: S) fun S' => WP 18 (.own o b) S' k := WPB_s (o2 := o2) rfl
theorem WPB_apso_18 {x0 x1 x2 x3 x4 x5 x6 x7 x8 x9 x10 x11 x12 x13 x14 x15 x16 x17 : Sv} {o2 : Ov} {r c : List AK} {as : List Rv} {k : Slots → Prop} : WPB (akOf (.sl 18) :: r ++ c) (.own o :: as) (x0 :: x1 :: x2 :: x3 :: x4 :: x5 :: x6 :: x7 :: x8 :: x9 :: x10 :: x11 :: x12 :: x13 :: x14 :: x15 :: x16 :: x17 :: .own o2 b :: S) k = WPB (r ++ c) as (x0 :: x1 :: x2 :: x3 :: x4 :: x5 :: x6 :: x7 :: x8 :: x9 :: x10 :: x11 :: x12 :: x13 :: x14 :: x15 :: x16 :: x17 :: .own o2 b :: S) fun S' => WP 18 (.own o b) S' k := WPB_s (o2 := o2) rfl
theorem WPB_so_19 {x0 x1 x2 x3 x4 x5 x6 x7 x8 x9 x10 x11 x12 x13 x14 x15 x16 x17 x18 : Sv} {o2 : Ov} {r : List AK} {as : List Rv} {k : Slots → Prop} : WPB (.s 19 :: r) (.own o :: as) (x0 :: x1 :: x2 :: x3 :: x4 :: x5 :: x6 :: x7 :: x8 :: x9 :: x10 :: x11 :: x12 :: x13 :: x14 :: x15 :: x16 :: x17 :: x18 :: .own o2 b :: S) k = WPB r as (x0 :: x1 :: x2 :: x3 :: x4 :: x5 :: x6 :: x7 :: x8 :: x9 :: x10 :: x11 :: x12 :: x13 :: x14 :: x15 :: x16 :: x17 :: x18 :: .own o2 b :: S) fun S' => WP 19 (.own o b) S' k := WPB_s (o2 := o2) rfl
theorem WPB_pso_19 {x0 x1 x2 x3 x4 x5 x6 x7 x8 x9 x10 x11 x12 x13 x14 x15 x16 x17 x18 : Sv} {o2 : Ov} {r : List AK} {as : List Rv} {k : Slots → Prop} : WPB (akOf (.sl 19) :: r) (.own o :: as) (x0 :: x1 :: x2 :: x3 :: x4 :: x5 :: x6 :: x7 :: x8 :: x9 :: x10 :: x11 :: x12 :: x13 :: x14 :: x15 :: x16 :: x17 :: x18 :: .own o2 b :: S) k = WPB r as (x0 :: x1 :: x2 :: x3 :: x4 :: x5 :: x6 :: x7 :: x8 :: x9 :: x10 :: x11 :: x12 :: x13 :: x14 :: x15 :: x16 :: x17 :: x18 :: .own o2 b :: S) fun S' => WP 19 (.own o b) S' k := WPB_s (o2 := o2) rfl
theorem WPB_aso_19 {x0 x1 x2 x3 x4 x5 x6 x7 x8 x9 x10 x11 x12 x13 x14 x15 x16 x17 x18 : Sv} {o2 : Ov} {r c : List AK} {as : List Rv} {k : Slots → Prop} : WPB (.s 19 :: r ++ c) (.own o :: as) (x0 :: x1 :: x2 :: x3 :: x4 :: x5 :: x6 :: x7 :: x8 :: x9 :: x10 :: x11 :: x12 :: x13 :: x14 :: x15 :: x16 :: x17 :: x18 :: .own o2 b :: S) k = WPB (r ++ c) as (x0 :: x1 :: x2 :: x3 :: x4 :: x5 :: x6 :: x7 :: x8 :: x9 :: x10 :: x11 :: x12 :: x13 :: x14 :: x15 :: x16 :: x17 :: x18 :: .own o2 b :: S) fun S' => WP 19 (.own o b) S' k := WPB_s (o2 := o2) rfl
theorem WPB_apso_19 {x0 x1 x2 x3 x4 x5 x6 x7 x8 x9 x10 x11 x12 x13 x14 x15 x16 x17 x18 : Sv} {o2 : Ov} {r c : List AK} {as : List Rv} {k : Slots → Prop} : WPB (akOf (.sl 19) :: r ++ c) (.own o :: as) (x0 :: x1 :: x2 :: x3 :: x4 :: x5 :: x6 :: x7 :: x8 :: x9 :: x10 :: x11 :: x12 :: x13 :: x14 :: x15 :: x16 :: x17 :: x18 :: .own o2 b :: S) k = WPB (r ++ c) as (x0 :: x1 :: x2 :: x3 :: x4 :: x5 :: x6 :: x7 :: x8 :: x9 :: x10 :: x11 :: x12 :: x13 :: x14 :: x15 :: x16 :: x17 :: x18 :: .own o2 b :: S) fun S' => WP 19 (.own o b) S' k := WPB_s (o2 := o2) rfl
theorem WPB_so_20 {x0 x1 x2 x3 x4 x5 x6 x7 x8 x9 x10 x11 x12 x13 x14 x15 x16 x17 x18 x19 : Sv} {o2 : Ov} {r : List AK} {as : List Rv} {k : Slots → Prop} : WPB (.s 20 :: r) (.own o :: as) (x0 :: x1 :: x2 :: x3 :: x4 :: x5 :: x6 :: x7 :: x8 :: x9 :: x10 :: x11 :: x12 :: x13 :: x14 :: x15 :: x16 :: x17 :: x18 :: x19 :: .own o2 b :: S) k = WPB r as (x0 :: x1 :: x2 :: x3 :: x4 :: x5 :: x6 :: x7 :: x8 :: x9 :: x10 :: x11 :: x12 :: x13 :: x14 :: x15 :: x16 :: x17 :: x18 :: x19 :: .own o2 b :: S) fun S' => WP 20 (.own o b) S' k := WPB_s (o2 := o2) rfl
theorem WPB_pso_20 {x0 x1 x2 x3 x4 x5 x6 x7 x8 x9 x10 x11 x12 x13 x14 x15 x16 x17 x18 x19 : Sv} {o2 : Ov} {r : List AK} {as : List Rv} {k : Slots → Prop} : WPB (akOf (.sl 20) :: r) (.own o :: as) (x0 :: x1 :: x2 :: x3 :: x4 :: x5 :: x6 :: x7 :: x8 :: x9 :: x10 :: x11 :: x12 :: x13 :: x14 :: x15 :: x16 :: x17 :: x18 :: x19 :: .own o2 b :: S) k = WPB r as (x0 :: x1 :: x2 :: x3 :: x4 :: x5 :: x6 :: x7 :: x8 :: x9 :: x10 :: x11 :: x12 :: x13 :: x14 :: x15 :: x16 :: x17 :: x18 :: x19 :: .own o2 b :: S) fun S' => WP 20 (.own o b) S' k := WPB_s (o2 := o2) rfl
theorem WPB_aso_20 {x0 x1 x2 x3 x4 x5 x6 x7 x8 x9 x10 x11 x12 x13 x14 x15 x16 x17 x18 x19 : Sv} {o2 : Ov} {r c : List AK} {as : List Rv} {k : Slots → Prop} : WPB (.s 20 :: r ++ c) (.own o :: as) (x0 :: x1 :: x2 :: x3 :: x4 :: x5 :: x6 :: x7 :: x8 :: x9 :: x10 :: x11 :: x12 :: x13 :: x14 :: x15 :: x16 :: x17 :: x18 :: x19 :: .own o2 b :: S) k = WPB (r ++ c) as (x0 :: x1 :: x2 :: x3 :: x4 :: x5 :: x6 :: x7 :: x8 :: x9 :: x10 :: x11 :: x12 :: x13 :: x14 :: x15 :: x16 :: x17 :: x18 :: x19 :: .own o2 b :: S) fun S' => WP 20 (.own o b) S' k := WPB_s (o2 := o2) rfl
theorem WPB_apso_20 {x0 x1 x2 x3 x4 x5 x6 x7 x8 x9 x10 x11 x12 x13 x14 x15 x16 x17 x18 x19 : Sv} {o2 : Ov} {r c : List AK} {as : List Rv} {k : Slots → Prop} : WPB (akOf (.sl 20) :: r ++ c) (.own o :: as) (x0 :: x1 :: x2 :: x3 :: x4 :: x5 :: x6 :: x7 :: x8 :: x9 :: x10 :: x11 :: x12 :: x13 :: x14 :: x15 :: x16 :: x17 :: x18 :: x19 :: .own o2 b :: S) k = WPB (r ++ c) as (x0 :: x1 :: x2 :: x3 :: x4 :: x5 :: x6 :: x7 :: x8 :: x9 :: x10 :: x11 :: x12 :: x13 :: x14 :: x15 :: x16 :: x17 :: x18 :: x19 :: .own o2 b :: S) fun S' => WP 20 (.own o b) S' k := WPB_s (o2 := o2) rfl
theorem WPB_so_21 {x0 x1 x2 x3 x4 x5 x6 x7 x8 x9 x10 x11 x12 x13 x14 x15 x16 x17 x18 x19 x20 : Sv} {o2 : Ov} {r : List AK} {as : List Rv} {k : Slots → Prop} : WPB (.s 21 :: r) (.own o :: as) (x0 :: x1 :: x2 :: x3 :: x4 :: x5 :: x6 :: x7 :: x8 :: x9 :: x10 :: x11 :: x12 :: x13 :: x14 :: x15 :: x16 :: x17 :: x18 :: x19 :: x20 :: .own o2 b :: S) k = WPB r as (x0 :: x1 :: x2 :: x3 :: x4 :: x5 :: x6 :: x7 :: x8 :: x9 :: x10 :: x11 :: x12 :: x13 :: x14 :: x15 :: x16 :: x17 :: x18 :: x19 :: x20 :: .own o2 b :: S) fun S' => WP 21 (.own o b) S' k := WPB_s (o2 := o2) rfl
theorem WPB_pso_21 {x0 x1 x2 x3 x4 x5 x6 x7 x8 x9 x10 x11 x12 x13 x14 x15 x16 x17 x18 x19 x20 : Sv} {o2 : Ov} {r : List AK} {as : List Rv} {k : Slots → Prop} : WPB (akOf (.sl 21) :: r) (.own o :: as) (x0 :: x1 :: x2 :: x3 :: x4 :: x5 :: x6 :: x7 :: x8 :: x9 :: x10 :: x11 :: x12 :: x13 :: x14 :: x15 :: x16 :: x17 :: x18 :: x19 :: x20 :: .own o2 b :: S) k = WPB r as (x0 :: x1 :: x2 :: x3 :: x4 :: x5 :: x6 :: x7 :: x8 :: x9 :: x10 :: x11 :: x12 :: x13 :: x14 :: x15 :: x16 :: x17 :: x18 :: x19 :: x20 :: .own o2 b :: S) fun S' => WP 21 (.own o b) S' k := WPB_s (o2 := o2) rfl
theorem WPB_aso_21 {x0 x1 x2 x3 x4 x5 x6 x7 x8 x9 x10 x11 x12 x13 x14 x15 x16 x17 x18 x19 x20 : Sv} {o2 : Ov} {r c : List AK} {as : List Rv} {k : Slots → Prop} : WPB (.s 21 :: r ++ c) (.own o :: as) (x0 :: x1 :: x2 :: x3 :: x4 :: x5 :: x6 :: x7 :: x8 :: x9 :: x10 :: x11 :: x12 :: x13 :: x14 :: x15 :: x16 :: x17 :: x18 :: x19 :: x20 :: .own o2 b :: S) k = WPB (r ++ c) as (x0 :: x1 :: x2 :: x3 :: x4 :: x5 :: x6 :: x7 :: x8 :: x9 :: x10 :: x11 :: x12 :: x13 :: x14 :: x15 :: x16 :: x17 :: x18 :: x19 :: x20 :: .own o2 b :: S) fun S' => WP 21 (.own o b) S' k := WPB_s (o2 := o2) rfl
theorem WPB_apso_21 {x0 x1 x2 x3 x4 x5 x6 x7 x8 x9 x10 x11 x12 x13 x14 x15 x16 x17 x18 x19 x20 : Sv} {o2 : Ov} {r c : List AK} {as : List Rv} {k : Slots → Prop} : WPB (akOf (.sl 21) :: r ++ c) (.own o :: as) (x0 :: x1 :: x2 :: x3 :: x4 :: x5 :: x6 :: x7 :: x8 :: x9 :: x10 :: x11 :: x12 :: x13 :: x14 :: x15 :: x16 :: x17 :: x18 :: x19 :: x20 :: .own o2 b :: S) k = WPB (r ++ c) as (x0 :: x1 :: x2 :: x3 :: x4 :: x5 :: x6 :: x7 :: x8 :: x9 :: x10 :: x11 :: x12 :: x13 :: x14 :: x15 :: x16 :: x17 :: x18 :: x19 :: x20 :: .own o2 b :: S) fun S' => WP 21 (.own o b) S' k := WPB_s (o2 := o2) rfl
theorem WPB_so_22 {x0 x1 x2 x3 x4 x5 x6 x7 x8 x9 x10 x11 x12 x13 x14 x15 x16 x17 x18 x19 x20 x21 : Sv} {o2 : Ov} {r : List AK} {as : List Rv} {k : Slots → Prop} : WPB (.s 22 :: r) (.own o :: as) (x0 :: x1 :: x2 :: x3 :: x4 :: x5 :: x6 :: x7 :: x8 :: x9 :: x10 :: x11 :: x12 :: x13 :: x14 :: x15 :: x16 :: x17 :: x18 :: x19 :: x20 :: x21 :: .own o2 b :: S) k = WPB r as (x0 :: x1 :: x2 :: x3 :: x4 :: x5 :: x6 :: x7 :: x8 :: x9 :: x10 :: x11 :: x12 :: x13 :: x14 :: x15 :: x16 :: x17 :: x18 :: x19 :: x20 :: x21 :: .own o2 b :: S) fun S' => WP 22 (.own o b) S' k := WPB_s (o2 := o2) rfl
theorem WPB_pso_22 {x0 x1 x2 x3 x4 x5 x6 x7 x8 x9 x10 x11 x12 x13 x14 x15 x16 x17 x18 x19 x20 x21 : Sv} {o2 : Ov} {r : List AK} {as : List Rv} {k : Slots → Prop} : WPB (akOf (.sl 22) :: r) (.own o :: as) (x0 :: x1 :: x2 :: x3 :: x4 :: x5 :: x6 :: x7 :: x8 :: x9 :: x10 :: x11 :: x12 :: x13 :: x14 :: x15 :: x16 :: x17 :: x18 :: x19 :: x20 :: x21 :: .own o2 b :: S) k = WPB r as (x0 :: x1 :: x2 :: x3 :: x4 :: x5 :: x6 :: x7 :: x8 :: x9 :: x10 :: x11 :: x12 :: x13 :: x14 :: x15 :: x16 :: x17 :: x18 :: x19 :: x20 :: x21 :: .own o2 b :: S) fun S' => WP 22 (.own o b) S' k := WPB_s (o2 := o2) rfl
theorem WPB_aso_22 {x0 x1 x2 x3 x4 x5 x6 x7 x8 x9 x10 x11 x12 x13 x14 x15 x16 x17 x18 x19 x20 x21 : Sv} {o2 : Ov} {r c : List AK} {as : List Rv} {k : Slots → Prop} : WPB (.s 22 :: r ++ c) (.own o :: as) (x0 :: x1 :: x2 :: x3 :: x4 :: x5 :: x6 :: x7 :: x8 :: x9 :: x10 :: x11 :: x12 :: x13 :: x14 :: x15 :: x16 :: x17 :: x18 :: x19 :: x20 :: x21 :: .own o2 b :: S) k = WPB (r ++ c) as (x0 :: x1 :: x2 :: x3 :: x4 :: x5 :: x6 :: x7 :: x8 :: x9 :: x10 :: x11 :: x12 :: x13 :: x14 :: x15 :: x16 :: x17 :: x18 :: x19 :: x20 :: x21 :: .own o2 b :: S) fun S' => WP 22 (.own o b) S' k := WPB_s (o2 := o2) rfl
theorem WPB_apso_22 {x0 x1 x2 x3 x4 x5 x6 x7 x8 x9 x10 x11 x12 x13 x14 x15 x16 x17 x18 x19 x20 x21 : Sv} {o2 : Ov} {r c : List AK} {as : List Rv} {k : Slots → Prop} : WPB (akOf (.sl 22) :: r ++ c) (.own o :: as) (x0 :: x1 :: x2 :: x3 :: x4 :: x5 :: x6 :: x7 :: x8 :: x9 :: x10 :: x11 :: x12 :: x13 :: x14 :: x15 :: x16 :: x17 :: x18 :: x19 :: x20 :: x21 :: .own o2 b :: S) k = WPB (r ++ c) as (x0 :: x1 :: x2 :: x3 :: x4 :: x5 :: x6 :: x7 :: x8 :: x9 :: x10 :: x11 :: x12 :: x13 :: x14 :: x15 :: x16 :: x17 :: x18 :: x19 :: x20 :: x21 :: .own o2 b :: S) fun S' => WP 22 (.own o b) S' k := WPB_s (o2 := o2) rfl
theorem WPB_so_23 {x0 x1 x2 x3 x4 x5 x6 x7 x8 x9 x10 x11 x12 x13 x14 x15 x16 x17 x18 x19 x20 x21 x22 : Sv} {o2 : Ov} {r : List AK} {as : List Rv} {k : Slots → Prop} : WPB (.s 23 :: r) (.own o :: as) (x0 :: x1 :: x2 :: x3 :: x4 :: x5 :: x6 :: x7 :: x8 :: x9 :: x10 :: x11 :: x12 :: x13 :: x14 :: x15 :: x16 :: x17 :: x18 :: x19 :: x20 :: x21 :: x22 :: .own o2 b :: S) k = WPB r as (x0 :: x1 :: x2 :: x3 :: x4 :: x5 :: x6 :: x7 :: x8 :: x9 :: x10 :: x11 :: x12 :: x13 :: x14 :: x15 :: x16 :: x17 :: x18 :: x19 :: x20 :: x21 :: x22 :: .own o2 b :: S) fun S' => WP 23 (.own o b) S' k := WPB_s (o2 := o2) rfl
theorem WPB_pso_23 {x0 x1 x2 x3 x4 x5 x6 x7 x8 x9 x10 x11 x12 x13 x14 x15 x16 x17 x18 x19 x20 x21 x22 : Sv} {o2 : Ov} {r : List AK} {as : List Rv} {k : Slots → Prop} : WPB (akOf (.sl 23) :: r) (.own o :: as) (x0 :: x1 :: x2 :: x3 :: x4 :: x5 :: x6 :: x7 :: x8 :: x9 :: x10 :: x11 :: x12 :: x13 :: x14 :: x15 :: x16 :: x17 :: x18 :: x19 :: x20 :: x21 :: x22 :: .own o2 b :: S) k = WPB r as (x0 :: x1 :: x2 :: x3 :: x4 :: x5 :: x6 :: x7 :: x8 :: x9 :: x10 :: x11 :: x12 :: x13 :: x14 :: x15 :: x16 :: x17 :: x18 :: x19 :: x20 :: x21 :: x22 :: .own o2 b :: S) fun S' => WP 23 (.own o b) S' k := WPB_s (o2 := o2) rfl
theorem WPB_aso_23 {x0 x1 x2 x3 x4 x5 x6 x7 x8 x9 x10 x11 x12 x13 x14 x15 x16 x17 x18 x19 x20 x21 x22 : Sv} {o2 : Ov} {r c : List AK} {as : List Rv} {k : Slots → Prop} : WPB (.s 23 :: r ++ c) (.own o :: as) (x0 :: x1 :: x2 :: x3 :: x4 :: x5 :: x6 :: x7 :: x8 :: x9 :: x10 :: x11 :: x12 :: x13 :: x14 :: x15 :: x16 :: x17 :: x18 :: x19 :: x20 :: x21 :: x22 :: .own o2 b :: S) k = WPB (r ++ c) as (x0 :: x1 :: x2 :: x3 :: x4 :: x5 :: x6 :: x7 :: x8 :: x9 :: x10 :: x11 :: x12 :: x13 :: x14 :: x15 :: x16 :: x17 :: x18 :: x19 :: x20 :: x21 :: x22 :: .own o2 b :: S) fun S' => WP 23 (.own o b) S' k := WPB_s (o2 := o2) rfl
theorem WPB_apso_23 {x0 x1 x2 x3 x4 x5 x6 x7 x8 x9 x10 x11 x12 x13 x14 x15 x16 x17 x18 x19 x20 x21 x22 : Sv} {o2 : Ov} {r c : List AK} {as : List Rv} {k : Slots → Prop} : WPB (akOf (.sl 23) :: r ++ c) (.own o :: as) (x0 :: x1 :: x2 :: x3 :: x4 :: x5 :: x6 :: x7 :: x8 :: x9 :: x10 :: x11 :: x12 :: x13 :: x14 :: x15 :: x16 :: x17 :: x18 :: x19 :: x20 :: x21 :: x22 :: .own o2 b :: S) k = WPB (r ++ c) as (x0 :: x1 :: x2 :: x3 :: x4 :: x5 :: x6 :: x7 :: x8 :: x9 :: x10 :: x11 :: x12 :: x13 :: x14 :: x15 :: x16 :: x17 :: x18 :: x19 :: x20 :: x21 :: x22 :: .own o2 b :: S) fun S' => WP 23 (.own o b) S' k := WPB_s (o2 := o2) rfl
theorem WPB_so_24 {x0 x1 x2 x3 x4 x5 x6 x7 x8 x9 x10 x11 x12 x13 x14 x15 x16 x17 x18 x19 x20 x21 x22 x23 : Sv} {o2 : Ov} {r : List AK} {as : List Rv} {k : Slots → Prop} : WPB (.s 24 :: r) (.own o :: as) (x0 :: x1 :: x2 :: x3 :: x4 :: x5 :: x6 :: x7 :: x8 :: x9 :: x10 :: x11 :: x12 :: x13 :: x14 :: x15 :: x16 :: x17 :: x18 :: x19 :: x20 :: x21 :: x22 :: x23 :: .own o2 b :: S) k = WPB r as (x0 :: x1 :: x2 :: x3 :: x4 :: x5 :: x6 :: x7 :: x8 :: x9 :: x10 :: x11 :: x12 :: x13 :: x14 :: x15 :: x16 :: x17 :: x18 :: x19 :: x20 :: x21 :: x22 :: x23 :: .own o2 b :: S) fun S' => WP 24 (.own o b) S' k := WPB_s (o2 := o2) rfl
theorem WPB_pso_24 {x0 x1 x2 x3 x4 x5 x6 x7 x8 x9 x10 x11 x12 x13 x14 x15 x16 x17 x18 x19 x20 x21 x22 x23 : Sv} {o2 : Ov} {r : List AK} {as : List Rv} {k : Slots → Prop} : WPB (akOf (.sl 24) :: r) (.own o :: as) (x0 :: x1 :: x2 :: x3 :: x4 :: x5 :: x6 :: x7 :: x8 :: x9 :: x10 :: x11 :: x12 :: x13 :: x14 :: x15 :: x16 :: x17 :: x18 :: x19 :: x20 :: x21 :: x22 :: x23 :: .own o2 b :: S) k = WPB r as (x0 :: x1 :: x2 :: x3 :: x4 :: x5 :: x6 :: x7 :: x8 :: x9 :: x10 :: x11 :: x12 :: x13 :: x14 :: x15 :: x16 :: x17 :: x18 :: x19 :: x20 :: x21 :: x22 :: x23 :: .own o2 b :: S) fun S' => WP 24 (.own o b) S' k := WPB_s (o2 := o2) rfl
theorem WPB_aso_24 {x0 x1 x2 x3 x4 x5 x6 x7 x8 x9 x10 x11 x12 x13 x14 x15 x16 x17 x18 x19 x20 x21 x22 x23 : Sv} {o2 : Ov} {r c : List AK} {as : List Rv} {k : Slots → Prop} : WPB (.s 24 :: r ++ c) (.own o :: as) (x0 :: x1 :: x2 :: x3 :: x4 :: x5 :: x6 :: x7 :: x8 :: x9 :: x10 :: x11 :: x12 :: x13 :: x14 :: x15 :: x16 :: x17 :: x18 :: x19 :: x20 :: x21 :: x22 :: x23 :: .own o2 b :: S) k = WPB (r ++ c) as (x0 :: x1 :: x2 :: x3 :: x4 :: x5 :: x6 :: x7 :: x8 :: x9 :: x10 :: x11 :: x12 :: x13 :: x14 :: x15 :: x16 :: x17 :: x18 :: x19 :: x20 :: x21 :: x22 :: x23 :: .own o2 b :: S) fun S' => WP 24 (.own o b) S' k := WPB_s (o2 := o2) rfl
theorem WPB_apso_24 {x0 x1 x2 x3 x4 x5 x6 x7 x8 x9 x10 x11 x12 x13 x14 x15 x16 x17 x18 x19 x20 x21 x22 x23 : Sv} {o2 : Ov} {r c : List AK} {as : List Rv} {k : Slots → Prop} : WPB (akOf (.sl 24) :: r ++ c) (.own o :: as) (x0 :: x1 :: x2 :: x3 :: x4 :: x5 :: x6 :: x7 :: x8 :: x9 :: x10 :: x11 :: x12 :: x13 :: x14 :: x15 :: x16 :: x17 :: x18 :: x19 :: x20 :: x21 :: x22 :: x23 :: .own o2 b :: S) k = WPB (r ++ c) as (x0 :: x1 :: x2 :: x3 :: x4 :: x5 :: x6 :: x7 :: x8 :: x9 :: x10 :: x11 :: x12 :: x13 :: x14 :: x15 :: x16 :: x17 :: x18 :: x19 :: x20 :: x21 :: x22 :: x23 :: .own o2 b :: S) fun S' => WP 24 (.own o b) S' k := WPB_s (o2 := o2) rfl
theorem WPB_so_25 {x0 x1 x2 x3 x4 x5 x6 x7 x8 x9 x10 x11 x12 x13 x14 x15 x16 x17 x18 x19 x20 x21 x22 x23 x24 : Sv} {o2 : Ov} {r : List AK} {as : List Rv} {k : Slots → Prop} : WPB (.s 25 :: r) (.own o :: as) (x0 :: x1 :: x2 :: x3 :: x4 :: x5 :: x6 :: x7 :: x8 :: x9 :: x10 :: x11 :: x12 :: x13 :: x14 :: x15 :: x16 :: x17 :: x18 :: x19 :: x20 :: x21 :: x22 :: x23 :: x24 :: .own o2 b :: S) k = WPB r as (x0 :: x1 :: x2 :: x3 :: x4 :: x5 :: x6 :: x7 :: x8 :: x9 :: x10 :: x11 :: x12 :: x13 :: x14 :: x15 :: x16 :: x17 :: x18 :: x19 :: x20 :: x21 :: x22 :: x23 :: x24 :: .own o2 b :: S) fun S' => WP 25 (.own o b) S' k := WPB_s (o2 := o2) rfl
theorem WPB_pso_25 {x0 x1 x2 x3 x4 x5 x6 x7 x8 x9 x10 x11 x12 x13 x14 x15 x16 x17 x18 x19 x20 x21 x22 x23 x24 : Sv} {o2 : Ov} {r : List AK} {as : List Rv} {k : Slots → Prop} : WPB (akOf (.sl 25) :: r) (.own o :: as) (x0 :: x1 :: x2 :: x3 :: x4 :: x5 :: x6 :: x7 :: x8 :: x9 :: x10 :: x11 :: x12 :: x13 :: x14 :: x15 :: x16 :: x17 :: x18 :: x19 :: x20 :: x21 :: x22 :: x23 :: x24 :: .own o2 b :: S) k = WPB r as (x0 :: x1 :: x2 :: x3 :: x4 :: x5 :: x6 :: x7 :: x8 :: x9 :: x10 :: x11 :: x12 :: x13 :: x14 :: x15 :: x16 :: x17 :: x18 :: x19 :: x20 :: x21 :: x22 :: x23 :: x24 :: .own o2 b :: S) fun S' => WP 25 (.own o b) S' k := WPB_s (o2 := o2) rfl
theorem WPB_aso_25 {x0 x1 x2 x3 x4 x5 x6 x7 x8 x9 x10 x11 x12 x13 x14 x15 x16 x17 x18 x19 x20 x21 x22 x23 x24 : Sv} {o2 : Ov} {r c : List AK} {as : List Rv} {k : Slots → Prop} : WPB (.s 25 :: r ++ c) (.own o :: as) (x0 :: x1 :: x2 :: x3 :: x4 :: x5 :: x6 :: x7 :: x8 :: x9 :: x10 :: x11 :: x12 :: x13 :: x14 :: x15 :: x16 :: x17 :: x18 :: x19 :: x20 :: x21 :: x22 :: x23 :: x24 :: .own o2 b :: S) k = WPB (r ++ c) as (x0 :: x1 :: x2 :: x3 :: x4 :: x5 :: x6 :: x7 :: x8 :: x9 :: x10 :: x11 :: x12 :: x13 :: x14 :: x15 :: x16 :: x17 :: x18 :: x19 :: x20 :: x21 :: x22 :: x23 :: x24 :: .own o2 b :: S) fun S' => WP 25 (.own o b) S' k := WPB_s (o2 := o2) rfl
theorem WPB_apso_25 {x0 x1 x2 x3 x4 x5 x6 x7 x8 x9 x10 x11 x12 x13 x14 x15 x16 x17 x18 x19 x20 x21 x22 x23 x24 : Sv} {o2 : Ov} {r c : List AK} {as : List Rv} {k : Slots → Prop} : WPB (akOf (.sl 25) :: r ++ c) (.own o :: as) (x0 :: x1 :: x2 :: x3 :: x4 :: x5 :: x6 :: x7 :: x8 :: x9 :: x10 :: x11 :: x12 :: x13 :: x14 :: x15 :: x16 :: x17 :: x18 :: x19 :: x20 :: x21 :: x22 :: x23 :: x24 :: .own o2 b :: S) k = WPB (r ++ c) as (x0 :: x1 :: x2 :: x3 :: x4 :: x5 :: x6 :: x7 :: x8 :: x9 :: x10 :: x11 :: x12 :: x13 :: x14 :: x15 :: x16 :: x17 :: x18 :: x19 :: x20 :: x21 :: x22 :: x23 :: x24 :: .own o2 b :: S) fun S' => WP 25 (.own o b) S' k := WPB_s (o2 := o2) rfl
theorem WPB_so_26 {x0 x1 x2 x3 x4 x5 x6 x7 x8 x9 x10 x11 x12 x13 x14 x15 x16 x17 x18 x19 x20 x21 x22 x23 x24 x25 : Sv} {o2 : Ov} {r : List AK} {as : List Rv} {k : Slots → Prop} : WPB (.s 26 :: r) (.own o :: as) (x0 :: x1 :: x2 :: x3 :: x4 :: x5 :: x6 :: x7 :: x8 :: x9 :: x10 :: x11 :: x12 :: x13 :: x14 :: x15 :: x16 :: x17 :: x18 :: x19 :: x20 :: x21 :: x22 :: x23 :: x24 :: x25 :: .own o2 b :: S) k = WPB r as (x0 :: x1 :: x2 :: x3 :: x4 :: x5 :: x6 :: x7 :: x8 :: x9 :: x10 :: x11 :: x12 :: x13 :: x14 :: x15 :: x16 :: x17 :: x18 :: x19 :: x20 :: x21 :: x22 :: x23 :: x24 :: x25 :: .own o2 b :: S) fun S' => WP 26 (.own o b) S' k := WPB_s (o2 := o2) rfl
theorem WPB_pso_26 {x0 x1 x2 x3 x4 x5 x6 x7 x8 x9 x10 x11 x12 x13 x14 x15 x16 x17 x18 x19 x20 x21 x22 x23 x24 x25 : Sv} {o2 : Ov} {r : List AK} {as : List Rv} {k : Slots → Prop} : WPB (akOf (.sl 26) :: r) (.own o :: as) (x0 :: x1 :: x2 :: x3 :: x4 :: x5 :: x6 :: x7 :: x8 :: x9 :: x10 :: x11 :: x12 :: x13 :: x14 :: x15 :: x16 :: x17 :: x18 :: x19 :: x20 :: x21 :: x22 :: x23 :: x24 :: x25 :: .own o2 b :: S) k = WPB r as (x0 :: x1 :: x2 :: x3 :: x4 :: x5 :: x6 :: x7 :: x8 :: x9 :: x10 :: x11 :: x12 :: x13 :: x14 :: x15 :: x16 :: x17 :: x18 :: x19 :: x20 :: x21 :: x22 :: x23 :: x24 :: x25 :: .own o2 b :: S) fun S' => WP 26 (.own o b) S' k := WPB_s (o2 := o2) rfl
theorem WPB_aso_26 {x0 x1 x2 x3 x4 x5 x6 x7 x8 x9 x10 x11 x12 x13 x14 x15 x16 x17 x18 x19 x20 x21 x22 x23 x24 x25 : Sv} {o2 : Ov} {r c : List AK} {as : List Rv} {k : Slots → Prop} : WPB (.s 26 :: r ++ c) (.own o :: as) (x0 :: x1 :: x2 :: x3 :: x4 :: x5 :: x6 :: x7 :: x8 :: x9 :: x10 :: x11 :: x12 :: x13 :: x14 :: x15 :: x16 :: x17 :: x18 :: x19 :: x20 :: x21 :: x22 :: x23 :: x24 :: x25 :: .own o2 b :: S) k = WPB (r ++ c) as (x0 :: x1 :: x2 :: x3 :: x4 :: x5 :: x6 :: x7 :: x8 :: x9 :: x10 :: x11 :: x12 :: x13 :: x14 :: x15 :: x16 :: x17 :: x18 :: x19 :: x20 :: x21 :: x22 :: x23 :: x24 :: x25 :: .own o2 b :: S) fun S' => WP 26 (.own o b) S' k := WPB_s (o2 := o2) rfl
theorem WPB_apso_26 {x0 x1 x2 x3 x4 x5 x6 x7 x8 x9 x10 x11 x12 x13 x14 x15 x16 x17 x18 x19 x20 x21 x22 x23 x24 x25 : Sv} {o2 : Ov} {r c : List AK} {as : List Rv} {k : Slots → Prop} : WPB (akOf (.sl 26) :: r ++ c) (.own o :: as) (x0 :: x1 :: x2 :: x3 :: x4 :: x5 :: x6 :: x7 :: x8 :: x9 :: x10 :: x11 :: x12 :: x13 :: x14 :: x15 :: x16 :: x17 :: x18 :: x19 :: x20 :: x21 :: x22 :: x23 :: x24 :: x25 :: .own o2 b :: S) k = WPB (r ++ c) as (x0 :: x1 :: x2 :: x3 :: x4 :: x5 :: x6 :: x7 :: x8 :: x9 :: x10 :: x11 :: x12 :: x13 :: x14 :: x15 :: x16 :: x17 :: x18 :: x19 :: x20 :: x21 :: x22 :: x23 :: x24 :: x25 :: .own o2 b :: S) fun S' => WP 26 (.own o b) S' k := WPB_s (o2 := o2) rfl
theorem WPB_so_27 {x0 x1 x2 x3 x4 x5 x6 x7 x8 x9 x10 x11 x12 x13 x14 x15 x16 x17 x18 x19 x20 x21 x22 x23 x24 x25 x26 : Sv} {o2 : Ov} {r : List AK} {as : List Rv} {k : Slots → Prop} : WPB (.s 27 :: r) (.own o :: as) (x0 :: x1 :: x2 :: x3 :: x4 :: x5 :: x6 :: x7 :: x8 :: x9 :: x10 :: x11 :: x12 :: x13 :: x14 :: x15 :: x16 :: x17 :: x18 :: x19 :: x20 :: x21 :: x22 :: x23 :: x24 :: x25 :: x26 :: .own o2 b :: S) k = WPB r as (x0 :: x1 :: x2 :: x3 :: x4 :: x5 :: x6 :: x7 :: x8 :: x9 :: x10 :: x11 :: x12 :: x13 :: x14 :: x15 :: x16 :: x17 :: x18 :: x19 :: x20 :: x21 :: x22 :: x23 :: x24 :: x25 :: x26 :: .own o2 b :: S) fun S' => WP 27 (.own o b) S' k := WPB_s (o2 := o2) rfl
theorem WPB_pso_27 {x0 x1 x2 x3 x4 x5 x6 x7 x8 x9 x10 x11 x12 x13 x14 x15 x16 x17 x18 x19 x20 x21 x22 x23 x24 x25 x26 : Sv} {o2 : Ov} {r : List AK} {as : List Rv} {k : Slots → Prop} : WPB (akOf (.sl 27) :: r) (.own o :: as) (x0 :: x1 :: x2 :: x3 :: x4 :: x5 :: x6 :: x7 :: x8 :: x9 :: x10 :: x11 :: x12 :: x13 :: x14 :: x15 :: x16 :: x17 :: x18 :: x19 :: x20 :: x21 :: x22 :: x23 :: x24 :: x25 :: x26 :: .own o2 b :: S) k = WPB r as (x0 :: x1 :: x2 :: x3 :: x4 :: x5 :: x6 :: x7 :: x8 :: x9 :: x10 :: x11 :: x12 :: x13 :: x14 :: x15 :: x16 :: x17 :: x18 :: x19 :: x20 :: x21 :: x22 :: x23 :: x24 :: x25 :: x26 :: .own o2 b :: S) fun S' => WP 27 (.own o b) S' k := WPB_s (o2 := o2) rfl
theorem WPB_aso_27 {x0 x1 x2 x3 x4 x5 x6 x7 x8 x9 x10 x11 x12 x13 x14 x15 x16 x17 x18 x19 x20 x21 x22 x23 x24 x25 x26 : Sv} {o2 : Ov} {r c : List AK} {as : List Rv} {k : Slots → Prop} : WPB (.s 27 :: r ++ c) (.own o :: as) (x0 :: x1 :: x2 :: x3 :: x4 :: x5 :: x6 :: x7 :: x8 :: x9 :: x10 :: x11 :: x12 :: x13 :: x14 :: x15 :: x16 :: x17 :: x18 :: x19 :: x20 :: x21 :: x22 :: x23 :: x24 :: x25 :: x26 :: .own o2 b :: S) k = WPB (r ++ c) as (x0 :: x1 :: x2 :: x3 :: x4 :: x5 :: x6 :: x7 :: x8 :: x9 :: x10 :: x11 :: x12 :: x13 :: x14 :: x15 :: x16 :: x17 :: x18 :: x19 :: x20 :: x21 :: x22 :: x23 :: x24 :: x25 :: x26 :: .own o2 b :: S) fun S' => WP 27 (.own o b) S' k := WPB_s (o2 := o2) rfl
theorem WPB_apso_27 {x0 x1 x2 x3 x4 x5 x6 x7 x8 x9 x10 x11 x12 x13 x14 x15 x16 x17 x18 x19 x20 x21 x22 x23 x24 x25 x26 : Sv} {o2 : Ov} {r c : List AK} {as : List Rv} {k : Slots → Prop} : WPB (akOf (.sl 27) :: r ++ c) (.own o :: as) (x0 :: x1 :: x2 :: x3 :: x4 :: x5 :: x6 :: x7 :: x8 :: x9 :: x10 :: x11 :: x12 :: x13 :: x14 :: x15 :: x16 :: x17 :: x18 :: x19 :: x20 :: x21 :: x22 :: x23 :: x24 :: x25 :: x26 :: .own o2 b :: S) k = WPB (r ++ c) as (x0 :: x1 :: x2 :: x3 :: x4 :: x5 :: x6 :: x7 :: x8 :: x9 :: x10 :: x11 :: x12 :: x13 :: x14 :: x15 :: x16 :: x17 :: x18 :: x19 :: x20 :: x21 :: x22 :: x23 :: x24 :: x25 :: x26 :: .own o2 b :: S) fun S' => WP 27 (.own o b) S' k := WPB_s (o2 := o2) rfl
theorem WPB_so_28 {x0 x1 x2 x3 x4 x5 x6 x7 x8 x9 x10 x11 x12 x13 x14 x15 x16 x17 x18 x19 x20 x21 x22 x23 x24 x25 x26 x27 : Sv} {o2 : Ov} {r : List AK} {as : List Rv} {k : Slots → Prop} : WPB (.s 28 :: r) (.own o :: as) (x0 :: x1 :: x2 :: x3 :: x4 :: x5 :: x6 :: x7 :: x8 :: x9 :: x10 :: x11 :: x12 :: x13 :: x14 :: x15 :: x16 :: x17 :: x18 :: x19 :: x20 :: x21 :: x22 :: x23 :: x24 :: x25 :: x26 :: x27 :: .own o2 b :: S) k = WPB r as (x0 :: x1 :: x2 :: x3 :: x4 :: x5 :: x6 :: x7 :: x8 :: x9 :: x10 :: x11 :: x12 :: x13 :: x14 :: x15 :: x16 :: x17 :: x18 :: x19 :: x20 :: x21 :: x22 :: x23 :: x24 :: x25 :: x26 :: x27 :: .own o2 b :: S) fun S' => WP 28 (.own o b) S' k := WPB_s (o2 := o2) rfl
theorem WPB_pso_28 {x0 x1 x2 x3 x4 x5 x6 x7 x8 x9 x10 x11 x12 x13 x14 x15 x16 x17 x18 x19 x20 x21 x22 x23 x24 x25 x26 x27 : Sv} {o2 : Ov} {r : List AK} {as : List Rv} {k : Slots → Prop} : WPB (akOf (.sl 28) :: r) (.own o :: as) (x0 :: x1 :: x2 :: x3 :: x4 :: x5 :: x6 :: x7 :: x8 :: x9 :: x10 :: x11 :: x12 :: x13 :: x14 :: x15 :: x16 :: x17 :: x18 :: x19 :: x20 :: x21 :: x22 :: x23 :: x24 :: x25 :: x26 :: x27 :: .own o2 b :: S) k = WPB r as (x0 :: x1 :: x2 :: x3 :: x4 :: x5 :: x6 :: x7 :: x8 :: x9 :: x10 :: x11 :: x12 :: x13 :: x14 :: x15 :: x16 :: x17 :: x18 :: x19 :: x20 :: x21 :: x22 :: x23 :: x24 :: x25 :: x26 :: x27 :: .own o2 b :: S) fun S' => WP 28 (.own o b) S' k := WPB_s (o2 := o2) rfl
theorem WPB_aso_28 {x0 x1 x2 x3 x4 x5 x6 x7 x8 x9 x10 x11 x12 x13 x14 x15 x16 x17 x18 x19 x20 x21 x22 x23 x24 x25 x26 x27 : Sv} {o2 : Ov} {r c : List AK} {as : List Rv} {k : Slots → Prop} : WPB (.s 28 :: r ++ c) (.own o :: as) (x0 :: x1 :: x2 :: x3 :: x4 :: x5 :: x6 :: x7 :: x8 :: x9 :: x10 :: x11 :: x12 :: x13 :: x14 :: x15 :: x16 :: x17 :: x18 :: x19 :: x20 :: x21 :: x22 :: x23 :: x24 :: x25 :: x26 :: x27 :: .own o2 b :: S) k = WPB (r ++ c) as (x0 :: x1 :: x2 :: x3 :: x4 :: x5 :: x6 :: x7 :: x8 :: x9 :: x10 :: x11 :: x12 :: x13 :: x14 :: x15 :: x16 :: x17 :: x18 :: x19 :: x20 :: x21 :: x22 :: x23 :: x24 :: x25 :: x26 :: x27 :: .own o2 b :: S) fun S' => WP 28 (.own o b) S' k := WPB_s (o2 := o2) rfl
theorem WPB_apso_28 {x0 x1 x2 x3 x4 x5 x6 x7 x8 x9 x10 x11 x12 x13 x14 x15 x16 x17 x18 x19 x20 x21 x22 x23 x24 x25 x26 x27 : Sv} {o2 : Ov} {r c : List AK} {as : List Rv} {k : Slots → Prop} : WPB (akOf (.sl 28) :: r ++ c) (.own o :: as) (x0 :: x1 :: x2 :: x3 :: x4 :: x5 :: x6 :: x7 :: x8 :: x9 :: x10 :: x11 :: x12 :: x13 :: x14 :: x15 :: x16 :: x17 :: x18 :: x19 :: x20 :: x21 :: x22 :: x23 :: x24 :: x25 :: x26 :: x27 :: .own o2 b :: S) k = WPB (r ++ c) as (x0 :: x1 :: x2 :: x3 :: x4 :: x5 :: x6 :: x7 :: x8 :: x9 :: x10 :: x11 :: x12 :: x13 :: x14 :: x15 :: x16 :: x17 :: x18 :: x19 :: x20 :: x21 :: x22 :: x23 :: x24 :: x25 :: x26 :: x27 :: .own o2 b :: S) fun S' => WP 28 (.own o b) S' k := WPB_s (o2 := o2) rfl
theorem WPB_so_29 {x0 x1 x2 x3 x4 x5 x6 x7 x8 x9 x10 x11 x12 x13 x14 x15 x16 x17 x18 x19 x20 x21 x22 x23 x24 x25 x26 x27 x28 : Sv} {o2 : Ov} {r : List AK} {as : List Rv} {k : Slots → Prop} : WPB (.s 29 :: r) (.own o :: as) (x0 :: x1 :: x2 :: x3 :: x4 :: x5 :: x6 :: x7 :: x8 :: x9 :: x10 :: x11 :: x12 :: x13 :: x14 :: x15 :: x16 :: x17 :: x18 :: x19 :: x20 :: x21 :: x22 :: x23 :: x24 :: x25 :: x26 :: x27 :: x28 :: .own o2 b :: S) k = WPB r as (x0 :: x1 :: x2 :: x3 :: x4 :: x5 :: x6 :: x7 :: x8 :: x9 :: x10 :: x11 :: x12 :: x13 :: x14 :: x15 :: x16 :: x17 :: x18 :: x19 :: x20 :: x21 :: x22 :: x23 :: x24 :: x25 :: x26 :: x27 :: x28 :: .own o2 b :: S) fun S' => WP 29 (.own o b) S' k := WPB_s (o2 := o2) rfl
theorem WPB_pso_29 {x0 x1 x2 x3 x4 x5 x6 x7 x8 x9 x10 x11 x12 x13 x14 x15 x16 x17 x18 x19 x20 x21 x22 x23 x24 x25 x26 x27 x28 : Sv} {o2 : Ov} {r : List AK} {as : List Rv} {k : Slots → Prop} : WPB (akOf (.sl 29) :: r) (.own o :: as) (x0 :: x1 :: x2 :: x3 :: x4 :: x5 :: x6 :: x7 :: x8 :: x9 :: x10 :: x11 :: x12 :: x13 :: x14 :: x15 :: x16 :: x17 :: x18 :: x19 :: x20 :: x21 :: x22 :: x23 :: x24 :: x25 :: x26 :: x27 :: x28 :: .own o2 b :: S) k = WPB r as (x0 :: x1 :: x2 :: x3 :: x4 :: x5 :: x6 :: x7 :: x8 :: x9 :: x10 :: x11 :: x12 :: x13 :: x14 :: x15 :: x16 :: x17 :: x18 :: x19 :: x20 :: x21 :: x22 :: x23 :: x24 :: x25 :: x26 :: x27 :: x28 :: .own o2 b :: S) fun S' => WP 29 (.own o b) S' k := WPB_s (o2 := o2) rfl
theorem WPB_aso_29 {x0 x1 x2 x3 x4 x5 x6 x7 x8 x9 x10 x11 x12 x13 x14 x15 x16 x17 x18 x19 x20 x21 x22 x23 x24 x25 x26 x27 x28 : Sv} {o2 : Ov} {r c : List AK} {as : List Rv} {k : Slots → Prop} : WPB (.s 29 :: r ++ c) (.own o :: as) (x0 :: x1 :: x2 :: x3 :: x4 :: x5 :: x6 :: x7 :: x8 :: x9 :: x10 :: x11 :: x12 :: x13 :: x14 :: x15 :: x16 :: x17 :: x18 :: x19 :: x20 :: x21 :: x22 :: x23 :: x24 :: x25 :: x26 :: x27 :: x28 :: .own o2 b :: S) k = WPB (r ++ c) as (x0 :: x1 :: x2 :: x3 :: x4 :: x5 :: x6 :: x7 :: x8 :: x9 :: x10 :: x11 :: x12 :: x13 :: x14 :: x15 :: x16 :: x17 :: x18 :: x19 :: x20 :: x21 :: x22 :: x23 :: x24 :: x25 :: x26 :: x27 :: x28 :: .own o2 b :: S) fun S' => WP 29 (.own o b) S' k := WPB_s (o2 := o2) rfl
theorem WPB_apso_29 {x0 x1 x2 x3 x4 x5 x6 x7 x8 x9 x10 x11 x12 x13 x14 x15 x16 x17 x18 x19 x20 x21 x22 x23 x24 x25 x26 x27 x28 : Sv} {o2 : Ov} {r c : List AK} {as : List Rv} {k : Slots → Prop} : WPB (akOf (.sl 29) :: r ++ c) (.own o :: as) (x0 :: x1 :: x2 :: x3 :: x4 :: x5 :: x6 :: x7 :: x8 :: x9 :: x10 :: x11 :: x12 :: x13 :: x14 :: x15 :: x16 :: x17 :: x18 :: x19 :: x20 :: x21 :: x22 :: x23 :: x24 :: x25 :: x26 :: x27 :: x28 :: .own o2 b :: S) k = WPB (r ++ c) as (x0 :: x1 :: x2 :: x3 :: x4 :: x5 :: x6 :: x7 :: x8 :: x9 :: x10 :: x11 :: x12 :: x13 :: x14 :: x15 :: x16 :: x17 :: x18 :: x19 :: x20 :: x21 :: x22 :: x23 :: x24 :: x25 :: x26 :: x27 :: x28 :: .own o2 b :: S) fun S' => WP 29 (.own o b) S' k := WPB_s (o2 := o2) rfl
noncomputable def KRv (K : Pv → Slots → Prop) (S : Slots) : Rv → Prop
  | .val d => K (.dat d) S
  | .own o => K (.fr o) S
  | .cb _ => K (.dat .non) S
theorem KRv_v {K : Pv → Slots → Prop} : KRv K S (.val d) = K (.dat d) S := id rfl
theorem KRv_o {K : Pv → Slots → Prop} : KRv K S (.own o) = K (.fr o) S := id rfl
noncomputable def WD (aks : List AK) (A : Prop) : Prop := nodupB (slotsIn aks) = true ∧ A
noncomputable def WDn (i : Nat) (aks : List AK) (A : Prop) : Prop := (slotsIn aks).contains i = false ∧ A
section
variable {A : Prop} {r q : List AK} {x : AK} {j : Nat}
theorem WD_n : WD [] A = A := by simp [WD, slotsIn, nodupB]
theorem WD_v : WD (.v d :: r) A = WD r A := id rfl
theorem WD_s : WD (.s i :: r) A = WDn i r (WD r A) := by
  unfold WD WDn
  show ((!(slotsIn r).contains i && nodupB (slotsIn r)) = true ∧ A) = _
  cases (slotsIn r).contains i <;> simp
theorem WD_pd : WD (akOf (.d d) :: r) A = WD r A := id rfl
theorem WD_ps : WD (akOf (.sl i) :: r) A = WDn i r (WD r A) := WD_s
theorem WD_ac : WD ((x :: r) ++ q) A = WD (x :: (r ++ q)) A := id rfl
theorem WD_an : WD ([] ++ q) A = WD q A := id rfl
theorem WDn_n : WDn i [] A = A := by simp [WDn, slotsIn]
theorem WDn_v : WDn i (.v d :: r) A = WDn i r A := id rfl
theorem WDn_s (h : ¬ i = j) : WDn i (.s j :: r) A = WDn i r A := by
  unfold WDn
  show ((j :: slotsIn r).contains i = false ∧ A) = _
  simp [h]
theorem WDn_pd : WDn i (akOf (.d d) :: r) A = WDn i r A := id rfl
theorem WDn_ps (h : ¬ i = j) : WDn i (akOf (.sl j) :: r) A = WDn i r A := WDn_s h
theorem WDn_ac : WDn i ((x :: r) ++ q) A = WDn i (x :: (r ++ q)) A := id rfl
theorem WDn_an : WDn i ([] ++ q) A = WDn i q A := id rfl
end
theorem V_callK {f : Fn} {aks : List AK} {K : Pv → Slots → Prop} : W (callK f [] aks) S K = WA S aks fun as => WD aks (WF (f as) fun r as' => WPB aks as' S fun S' => KRv K S' r) := by
  rw [W_callK]; unfold WA; congr 1; funext as; unfold WD; congr 1; congr 1; funext r as'; cases r <;> rfl
theorem V_callN {f : Fn} {a c : List AK} {K : Pv → Slots → Prop} (h1 : a.length = n) (h2 : c.length = m) : W (callN f n m a c) S K = W (callK f [] (a ++ c)) S K := by
  rw [W_callN]; simp [h1, h2]
/-! list methods, items -/
noncomputable def ownLK (A : Prop) : Sv → Prop
  | .own (.lst _) _ => A
  | _ => False
theorem ownLK_o {A : Prop} {ds : List D} : ownLK A (.own (.lst ds) b) = A := id rfl
noncomputable def LMK (o : Option (List D × D)) (k : List D → D → Prop) : Prop := match o with
  | some (a, d) => k a d
  | none => False
noncomputable def methK (o : LM) (args : List D) (k : Sv → D → Prop) : Sv → Prop
  | .own (.lst ds) b => LMK (o ds args) fun ds' d => k (.own (.lst ds') b) d
  | _ => False
theorem methK_o {o : LM} {args ds : List D} {k : Sv → D → Prop} : methK o args k (.own (.lst ds) b) = LMK (o ds args) fun ds' d => k (.own (.lst ds') b) d := id rfl
theorem V_gMeth {o : LM} {g : M (List D)} {K : Pv → Slots → Prop} : W (gMeth i o g) S K = WS i S (ownLK (W g S fun args S1 => WS i S1 (methK o args fun sv' d => WP i sv' S1 (K (.dat d))))) := by
  unfold W gMeth WS
  cases S[i]? with
  | none => rfl
  | some sv => cases sv with
    | no => rfl
    | cb _ => rfl
    | val d => rfl
    | own o1 b1 => cases o1 with
      | ins c fs ds => rfl
      | dic ks ds => rfl
      | lst ds =>
        simp only [ownLK, M.bind]
        cases g S with
        | bad => rfl
        | exc x S' => rfl
        | ok p =>
          obtain ⟨args, S1⟩ := p
          simp only []
          cases S1[i]? with
          | none => rfl
          | some sv => cases sv with
            | no => rfl
            | cb _ => rfl
            | val d => rfl
            | own o2 b2 => cases o2 with
              | ins c fs ds => rfl
              | dic ks ds => rfl
              | lst ds2 =>
                simp only [methK]
                cases o ds2 args <;> rfl
theorem lm_append {ds : List D} {k : List D → D → Prop} (h : ds.length < sizeLine) : LMK (lmAppend ds [d]) k = k (ds ++ [d]) .non := by unfold LMK lmAppend; simp only [h, if_true]
theorem lm_insert {ds : List D} {j : Int} {k : List D → D → Prop} (h : ds.length < sizeLine) (h2 : 0 ≤ j) (h3 : j < 9223372036854775808) : LMK (lmInsert ds [.int j, d]) k = k (ds.take j.toNat ++ [d] ++ ds.drop j.toNat) .non := by
  unfold LMK lmInsert; simp only [h, h2, true_and]
  rw [if_pos (show j < 2 ^ 63 by omega)]
theorem lm_clear {ds : List D} {k : List D → D → Prop} : LMK (lmClear ds []) k = k [] .non := id rfl
theorem lm_reverse {ds : List D} {k : List D → D → Prop} : LMK (lmReverse ds []) k = k ds.reverse .non := id rfl
theorem lm_extend {ds es : List D} {k : List D → D → Prop} (h : ds.length + es.length ≤ sizeLine) : LMK (lmExtend ds [.lst es]) k = k (ds ++ es) .non := by unfold LMK lmExtend; simp only [h, if_true]
noncomputable def WI (ds : List D) (j : Int) (d : D) (k : List D → Prop) : Prop := match L2.ixN ds.length j with
  | some n => k (ds.set n d)
  | none => False
noncomputable def itemK (d : D) (j : D) (k : Sv → Prop) : Sv → Prop
  | .own (.lst ds) b => match j with
    | .int j => WI ds j d fun ds' => k (.own (.lst ds') b)
    | _ => False
  | _ => False
theorem itemK_o {ds : List D} {j : Int} {k : Sv → Prop} : itemK d (.int j) k (.own (.lst ds) b) = WI ds j d fun ds' => k (.own (.lst ds') b) := id rfl
theorem V_bItem {g : M Pd} {K : Unit → Slots → Prop} : W (bItem i g d) S K = WS i S (ownLK (W g S fun p S1 => WL (drf S1 p) fun j => WS i S1 (itemK d j fun sv => WP i sv S1 (K ())))) := by
  unfold W bItem WS
  cases S[i]? with
  | none => rfl
  | some sv => cases sv with
    | no => rfl
    | cb _ => rfl
    | val d => rfl
    | own o1 b1 => cases o1 with
      | ins c fs ds => rfl
      | dic ks ds => rfl
      | lst ds =>
        simp only [ownLK]
        cases g S with
        | bad => rfl
        | exc x S' => rfl
        | ok p =>
          obtain ⟨p, S1⟩ := p
          simp only []
          unfold WL
          cases drf S1 p with
          | none => rfl
          | some j => cases h : S1[i]? with
            | none => cases j <;> simp only [h]
            | some sv => cases sv with
              | no => cases j <;> simp only [itemK, h]
              | cb _ => cases j <;> simp only [itemK, h]
              | val d => cases j <;> simp only [itemK, h]
              | own o2 b2 => cases o2 with
                | ins c fs ds => cases j <;> simp only [itemK, h]
                | dic ks ds => cases j <;> simp only [itemK, h]
                | lst ds2 => cases j with
                  | int j =>
                    simp only [itemK, h, WI]
                    cases L2.ixN ds2.length j <;> rfl
                  | _ => simp only [itemK, h]
theorem WI_any {ds : List D} {j : Int} {k : List D → Prop} (h : 0 ≤ j) (h2 : j < ds.length) : WI ds j d k = k (ds.set j.toNat d) := by
  unfold WI L2.ixN; rw [if_pos h, if_pos h2]
/-! x[i] -/
noncomputable def nth (xs : List D) (j : Int) : D := xs.getD j.toNat .non
theorem ixD_any {xs : List D} {j : Int} (h : 0 ≤ j) (h2 : j < xs.length) : L2.atI xs j = some (nth xs j) := by
  unfold L2.atI L2.ixN nth
  rw [if_pos h, if_pos h2]
  show xs[j.toNat]? = _
  rw [List.getD_eq_getElem?_getD, List.getElem?_eq_getElem (by omega)]
  rfl
theorem ixl_any {xs : List D} {j : Int} {K : Pv → Prop} (h : 0 ≤ j) (h2 : j < xs.length) : WL (oIx (.lst xs) (.int j)) K = K (.dat (nth xs j)) := WL_of (by show (L2.atI xs j).map _ = _; rw [ixD_any h h2]; rfl)
theorem ixt_any {xs : List D} {j : Int} {K : Pv → Prop} (h : 0 ≤ j) (h2 : j < xs.length) : WL (oIx (.tup xs) (.int j)) K = K (.dat (nth xs j)) := WL_of (by show (L2.atI xs j).map _ = _; rw [ixD_any h h2]; rfl)
theorem nth_map {α : Type} {f : α → D} {xs : List α} {j : Int} (h : 0 ≤ j) (h2 : j.toNat < xs.length) : nth (xs.map f) j = f xs[j.toNat] := by
  unfold nth
  rw [List.getD_eq_getElem?_getD, List.getElem?_map, List.getElem?_eq_getElem h2]
  rfl
theorem ixl_0 {x0 : D} {r : List D} {K : Pv → Prop} : WL (oIx (.lst (x0 :: r)) (.int 0)) K = K (.dat x0) := by rw [ixl_any (by omega) (by simp only [List.length_cons]; omega)]; rfl
theorem ixt_0 {x0 : D} {r : List D} {K : Pv → Prop} : WL (oIx (.tup (x0 :: r)) (.int 0)) K = K (.dat x0) := by rw [ixt_any (by omega) (by simp only [List.length_cons]; omega)]; rfl
theorem WI_0 {x0 : D} {r : List D} {k : List D → Prop} : WI (x0 :: r) 0 d k = k (d :: r) := by rw [WI_any (by omega) (by simp only [List.length_cons]; omega)]; rfl
theorem ixl_1 {x0 x1 : D} {r : List D} {K : Pv → Prop} : WL (oIx (.lst (x0 :: x1 :: r)) (.int 1)) K = K (.dat x1) := by rw [ixl_any (by omega) (by simp only [List.length_cons]; omega)]; rfl
theorem ixt_1 {x0 x1 : D} {r : List D} {K : Pv → Prop} : WL (oIx (.tup (x0 :: x1 :: r)) (.int 1)) K = K (.dat x1) := by rw [ixt_any (by omega) (by simp only [List.length_cons]; omega)]; rfl
theorem WI_1 {x0 x1 : D} {r : List D} {k : List D → Prop} : WI (x0 :: x1 :: r) 1 d k = k (x0 :: d :: r) := by rw [WI_any (by omega) (by simp only [List.length_cons]; omega)]; rfl
theorem ixl_2 {x0 x1 x2 : D} {r : List D} {K : Pv → Prop} : WL (oIx (.lst (x0 :: x1 :: x2 :: r)) (.int 2)) K = K (.dat x2) := by rw [ixl_any (by omega) (by simp only [List.length_cons]; omega)]; rfl
theorem ixt_2 {x0 x1 x2 : D} {r : List D} {K : Pv → Prop} : WL (oIx (.tup (x0 :: x1 :: x2 :: r)) (.int 2)) K = K (.dat x2) := by rw [ixt_any (by omega) (by simp only [List.length_cons]; omega)]; rfl
theorem WI_2 {x0 x1 x2 : D} {r : List D} {k : List D → Prop} : WI (x0 :: x1 :: x2 :: r) 2 d k = k (x0 :: x1 :: d :: r) := by rw [WI_any (by omega) (by simp only [List.length_cons]; omega)]; rfl
theorem ixl_3 {x0 x1 x2 x3 : D} {r : List D} {K : Pv → Prop} : WL (oIx (.lst (x0 :: x1 :: x2 :: x3 :: r)) (.int 3)) K = K (.dat x3) := by rw [ixl_any (by omega) (by simp only [List.length_cons]; omega)]; rfl
theorem ixt_3 {x0 x1 x2 x3 : D} {r : List D} {K : Pv → Prop} : WL (oIx (.tup (x0 :: x1 :: x2 :: x3 :: r)) (.int 3)) K = K (.dat x3) := by rw [ixt_any (by omega) (by simp only [List.length_cons]; omega)]; rfl
theorem WI_3 {x0 x1 x2 x3 : D} {r : List D} {k : List D → Prop} : WI (x0 :: x1 :: x2 :: x3 :: r) 3 d k = k (x0 :: x1 :: x2 :: d :: r) := by rw [WI_any (by omega) (by simp only [List.length_cons]; omega)]; rfl
theorem ixl_4 {x0 x1 x2 x3 x4 : D} {r : List D} {K : Pv → Prop} : WL (oIx (.lst (x0 :: x1 :: x2 :: x3 :: x4 :: r)) (.int 4)) K = K (.dat x4) := by rw [ixl_any (by omega) (by simp only [List.length_cons]; omega)]; rfl
theorem ixt_4 {x0 x1 x2 x3 x4 : D} {r : List D} {K : Pv → Prop} : WL (oIx (.tup (x0 :: x1 :: x2 :: x3 :: x4 :: r)) (.int 4)) K = K (.dat x4) := by rw [ixt_any (by omega) (by simp only [List.length_cons]; omega)]; rfl
theorem WI_4 {x0 x1 x2 x3 x4 : D} {r : List D} {k : List D → Prop} : WI (x0 :: x1 :: x2 :: x3 :: x4 :: r) 4 d k = k (x0 :: x1 :: x2 :: x3 :: d :: r) := by rw [WI_any (by omega) (by simp only [List.length_cons]; omega)]; rfl
theorem ixl_5 {x0 x1 x2 x3 x4 x5 : D} {r : List D} {K : Pv → Prop} : WL (oIx (.lst (x0 :: x1 :: x2 :: x3 :: x4 :: x5 :: r)) (.int 5)) K = K (.dat x5) := by rw [ixl_any (by omega) (by simp only [List.length_cons]; omega)]; rfl
theorem ixt_5 {x0 x1 x2 x3 x4 x5 : D} {r : List D} {K : Pv → Prop} : WL (oIx (.tup (x0 :: x1 :: x2 :: x3 :: x4 :: x5 :: r)) (.int 5)) K = K (.dat x5) := by rw [ixt_any (by omega) (by simp only [List.length_cons]; omega)]; rfl
theorem WI_5 {x0 x1 x2 x3 x4 x5 : D} {r : List D} {k : List D → Prop} : WI (x0 :: x1 :: x2 :: x3 :: x4 :: x5 :: r) 5 d k = k (x0 :: x1 :: x2 :: x3 :: x4 :: d :: r) := by rw [WI_any (by omega) (by simp only [List.length_cons]; omega)]; rfl
theorem ixl_6 {x0 x1 x2 x3 x4 x5 x6 : D} {r : List D} {K : Pv → Prop} : WL (oIx (.lst (x0 :: x1 :: x2 :: x3 :: x4 :: x5 :: x6 :: r)) (.int 6)) K = K (.dat x6) := by rw [ixl_any (by omega) (by simp only [List.length_cons]; omega)]; rfl
theorem ixt_6 {x0 x1 x2 x3 x4 x5 x6 : D} {r : List D} {K : Pv → Prop} : WL (oIx (.tup (x0 :: x1 :: x2 :: x3 :: x4 :: x5 :: x6 :: r)) (.int 6)) K = K (.dat x6) := by rw [ixt_any (by omega) (by simp only [List.length_cons]; omega)]; rfl
theorem WI_6 {x0 x1 x2 x3 x4 x5 x6 : D} {r : List D} {k : List D → Prop} : WI (x0 :: x1 :: x2 :: x3 :: x4 :: x5 :: x6 :: r) 6 d k = k (x0 :: x1 :: x2 :: x3 :: x4 :: x5 :: d :: r) := by rw [WI_any (by omega) (by simp only [List.length_cons]; omega)]; rfl
theorem ixl_7 {x0 x1 x2 x3 x4 x5 x6 x7 : D} {r : List D} {K : Pv → Prop} : WL (oIx (.lst (x0 :: x1 :: x2 :: x3 :: x4 :: x5 :: x6 :: x7 :: r)) (.int 7)) K = K (.dat x7) := by rw [ixl_any (by omega) (by simp only [List.length_cons]; omega)]; rfl
theorem ixt_7 {x0 x1 x2 x3 x4 x5 x6 x7 : D} {r : List D} {K : Pv → Prop} : WL (oIx (.tup (x0 :: x1 :: x2 :: x3 :: x4 :: x5 :: x6 :: x7 :: r)) (.int 7)) K = K (.dat x7) := by rw [ixt_any (by omega) (by simp only [List.length_cons]; omega)]; rfl
theorem WI_7 {x0 x1 x2 x3 x4 x5 x6 x7 : D} {r : List D} {k : List D → Prop} : WI (x0 :: x1 :: x2 :: x3 :: x4 :: x5 :: x6 :: x7 :: r) 7 d k = k (x0 :: x1 :: x2 :: x3 :: x4 :: x5 :: x6 :: d :: r) := by rw [WI_any (by omega) (by simp only [List.length_cons]; omega)]; rfl
theorem ixl_map {α : Type} [Inhabited α] {f : α → D} {xs : List α} {j : Int} {K : Pv → Prop} (h : 0 ≤ j) (h2 : j < xs.length) : WL (oIx (.lst (xs.map f)) (.int j)) K = K (.dat (f (xs.getD j.toNat default))) := by
  rw [ixl_any h (by rw [List.length_map]; exact h2), nth_map h (by omega), List.getD_eq_getElem?_getD, List.getElem?_eq_getElem (by omega)]; rfl
theorem ixt_map {α : Type} [Inhabited α] {f : α → D} {xs : List α} {j : Int} {K : Pv → Prop} (h : 0 ≤ j) (h2 : j < xs.length) : WL (oIx (.tup (xs.map f)) (.int j)) K = K (.dat (f (xs.getD j.toNat default))) := by
  rw [ixt_any h (by rw [List.length_map]; exact h2), nth_map h (by omega), List.getD_eq_getElem?_getD, List.getElem?_eq_getElem (by omega)]; rfl
/-! slices with bounds from 0 on -/
theorem cut_hi {α : Type} {xs : List α} {j : Int} (h : 0 ≤ j) : cutA xs none (some j) = xs.take j.toNat := by
  unfold cutA
  have e1 : HT.sIx xs.length 0 none = 0 := id rfl
  have e2 : HT.sIx xs.length xs.length (some j) = min j.toNat xs.length := if_neg (by omega)
  rw [e1, e2, List.drop_zero, Nat.sub_zero]
  by_cases q : j.toNat ≤ xs.length
  · rw [Nat.min_eq_left q]
  · rw [Nat.min_eq_right (by omega), List.take_length, List.take_of_length_le (by omega)]
theorem cut_lo {α : Type} {xs : List α} {j : Int} (h : 0 ≤ j) : cutA xs (some j) none = xs.drop j.toNat := by
  unfold cutA
  have e1 : HT.sIx xs.length xs.length none = xs.length := id rfl
  have e2 : HT.sIx xs.length 0 (some j) = min j.toNat xs.length := if_neg (by omega)
  rw [e1, e2, List.take_of_length_le (by rw [List.length_drop]; omega)]
  by_cases q : j.toNat ≤ xs.length
  · rw [Nat.min_eq_left q]
  · rw [Nat.min_eq_right (by omega), List.drop_length, List.drop_of_length_le (by omega)]
theorem cut_lh {α : Type} {xs : List α} {i j : Int} (h0 : 0 ≤ i) (h : 0 ≤ j) : cutA xs (some i) (some j) = (xs.drop i.toNat).take (j.toNat - i.toNat) := by
  unfold cutA
  have e1 : HT.sIx xs.length xs.length (some j) = min j.toNat xs.length := if_neg (by omega)
  have e2 : HT.sIx xs.length 0 (some i) = min i.toNat xs.length := if_neg (by omega)
  rw [e1, e2]
  by_cases q : i.toNat ≤ xs.length
  · rw [Nat.min_eq_left q]
    by_cases q2 : j.toNat ≤ xs.length
    · rw [Nat.min_eq_left q2]
    · rw [Nat.min_eq_right (by omega), List.take_of_length_le (by rw [List.length_drop]; omega), List.take_of_length_le (by rw [List.length_drop]; omega)]
  · rw [show min i.toNat xs.length = xs.length by omega, List.drop_length, List.drop_of_length_le (by omega), List.take_nil, List.take_nil]
theorem slL_hi {xs : List D} {j : Int} {K : Pv → Prop} (h : 0 ≤ j) : WL (oSlS (.lst xs) none (some j)) K = K (.fr (.lst (xs.take j.toNat))) := by rw [WL_slL, cut_hi h]
theorem slT_hi {xs : List D} {j : Int} {K : Pv → Prop} (h : 0 ≤ j) : WL (oSlS (.tup xs) none (some j)) K = K (.dat (.tup (xs.take j.toNat))) := by rw [WL_slT, cut_hi h]
theorem slL_lo {xs : List D} {j : Int} {K : Pv → Prop} (h : 0 ≤ j) : WL (oSlS (.lst xs) (some j) none) K = K (.fr (.lst (xs.drop j.toNat))) := by rw [WL_slL, cut_lo h]
theorem slT_lo {xs : List D} {j : Int} {K : Pv → Prop} (h : 0 ≤ j) : WL (oSlS (.tup xs) (some j) none) K = K (.dat (.tup (xs.drop j.toNat))) := by rw [WL_slT, cut_lo h]
theorem slL_lh {xs : List D} {i j : Int} {K : Pv → Prop} (h0 : 0 ≤ i) (h : 0 ≤ j) : WL (oSlS (.lst xs) (some i) (some j)) K = K (.fr (.lst ((xs.drop i.toNat).take (j.toNat - i.toNat)))) := by rw [WL_slL, cut_lh h0 h]
theorem slT_lh {xs : List D} {i j : Int} {K : Pv → Prop} (h0 : 0 ≤ i) (h : 0 ≤ j) : WL (oSlS (.tup xs) (some i) (some j)) K = K (.dat (.tup ((xs.drop i.toNat).take (j.toNat - i.toNat)))) := by rw [WL_slT, cut_lh h0 h]
/-! comprehensions -/
noncomputable def WK : List Nat → Slots → Slots → (Slots → Prop) → Prop := fun vs S0 S k => k (backS S0 S vs)
noncomputable def bkV : Sv → Sv
  | .val d => .val d
  | _ => .no
theorem bkV_v : bkV (.val d) = .val d := id rfl
theorem bkV_o : bkV (.own o b) = .no := id rfl
theorem bkV_n : bkV .no = .no := id rfl
theorem WK_n {S0 : Slots} {k : Slots → Prop} : WK [] S0 S k = k S := id rfl
theorem WK_c {vs : List Nat} {S0 : Slots} {k : Slots → Prop} {sv : Sv} (h : S0[i]? = some sv) : WK (i :: vs) S0 S k = WK vs S0 S fun S' => WP i (bkV sv) S' k := by
  have e : backS S0 S (i :: vs) = (backS S0 S vs).set i (match S0[i]? with | some (.val d) => .val d | _ => .no) := id rfl
  unfold WK WP
  rw [e, h]
  cases sv <;> rfl
theorem WK_0 {vs : List Nat} {x0 : Sv} {S0 : Slots} {k : Slots → Prop} : WK (0 :: vs) (x0 :: S0) S k = WK vs (x0 :: S0) S fun S' => WP 0 (bkV x0) S' k := WK_c rfl
theorem WK_1 {vs : List Nat} {x0 x1 : Sv} {S0 : Slots} {k : Slots → Prop} : WK (1 :: vs) (x0 :: x1 :: S0) S k = WK vs (x0 :: x1 :: S0) S fun S' => WP 1 (bkV x1) S' k := WK_c rfl
theorem WK_2 {vs : List Nat} {x0 x1 x2 : Sv} {S0 : Slots} {k : Slots → Prop} : WK (2 :: vs) (x0 :: x1 :: x2 :: S0) S k = WK vs (x0 :: x1 :: x2 :: S0) S fun S' => WP 2 (bkV x2) S' k := WK_c rfl
theorem WK_3 {vs : List Nat} {x0 x1 x2 x3 : Sv} {S0 : Slots} {k : Slots → Prop} : WK (3 :: vs) (x0 :: x1 :: x2 :: x3 :: S0) S k = WK vs (x0 :: x1 :: x2 :: x3 :: S0) S fun S' => WP 3 (bkV x3) S' k := WK_c rfl
theorem WK_4 {vs : List Nat} {x0 x1 x2 x3 x4 : Sv} {S0 : Slots} {k : Slots → Prop} : WK (4 :: vs) (x0 :: x1 :: x2 :: x3 :: x4 :: S0) S k = WK vs (x0 :: x1 :: x2 :: x3 :: x4 :: S0) S fun S' => WP 4 (bkV x4) S' k := WK_c rfl
theorem WK_5 {vs : List Nat} {x0 x1 x2 x3 x4 x5 : Sv} {S0 : Slots} {k : Slots → Prop} : WK (5 :: vs) (x0 :: x1 :: x2 :: x3 :: x4 :: x5 :: S0) S k = WK vs (x0 :: x1 :: x2 :: x3 :: x4 :: x5 :: S0) S fun S' => WP 5 (bkV x5) S' k := WK_c rfl
theorem WK_6 {vs : List Nat} {x0 x1 x2 x3 x4 x5 x6 : Sv} {S0 : Slots} {k : Slots → Prop} : WK (6 :: vs) (x0 :: x1 :: x2 :: x3 :: x4 :: x5 :: x6 :: S0) S k = WK vs (x0 :: x1 :: x2 :: x3 :: x4 :: x5 :: x6 :: S0) S fun S' => WP 6 (bkV x6) S' k := WK_c rfl
theorem WK_7 {vs : List Nat} {x0 x1 x2 x3 x4 x5 x6 x7 : Sv} {S0 : Slots} {k : Slots → Prop} : WK (7 :: vs) (x0 :: x1 :: x2 :: x3 :: x4 :: x5 :: x6 :: x7 :: S0) S k = WK vs (x0 :: x1 :: x2 :: x3 :: x4 :: x5 :: x6 :: x7 :: S0) S fun S' => WP 7 (bkV x7) S' k := WK_c rfl
theorem WK_8 {vs : List Nat} {x0 x1 x2 x3 x4 x5 x6 x7 x8 : Sv} {S0 : Slots} {k : Slots → Prop} : WK (8 :: vs) (x0 :: x1 :: x2 :: x3 :: x4 :: x5 :: x6 :: x7 :: x8 :: S0) S k = WK vs (x0 :: x1 :: x2 :: x3 :: x4 :: x5 :: x6 :: x7 :: x8 :: S0) S fun S' => WP 8 (bkV x8) S' k := WK_c rfl
theorem WK_9 {vs : List Nat} {x0 x1 x2 x3 x4 x5 x6 x7 x8 x9 : Sv} {S0 : Slots} {k : Slots → Prop} : WK (9 :: vs) (x0 :: x1 :: x2 :: x3 :: x4 :: x5 :: x6 :: x7 :: x8 :: x9 :: S0) S k = WK vs (x0 :: x1 :: x2 :: x3 :: x4 :: x5 :: x6 :: x7 :: x8 :: x9 :: S0) S fun S' => WP 9 (bkV x9) S' k := WK_c rfl
theorem WK_10 {vs : List Nat} {x0 x1 x2 x3 x4 x5 x6 x7 x8 x9 x10 : Sv} {S0 : Slots} {k : Slots → Prop} : WK (10 :: vs) (x0 :: x1 :: x2 :: x3 :: x4 :: x5 :: x6 :: x7 :: x8 :: x9 :: x10 :: S0) S k = WK vs (x0 :: x1 :: x2 :: x3 :: x4 :: x5 :: x6 :: x7 :: x8 :: x9 :: x10 :: S0) S fun S' => WP 10 (bkV x10) S' k := WK_c rfl
theorem WK_11 {vs : List Nat} {x0 x1 x2 x3 x4 x5 x6 x7 x8 x9 x10 x11 : Sv} {S0 : Slots} {k : Slots → Prop} : WK (11 :: vs) (x0 :: x1 :: x2 :: x3 :: x4 :: x5 :: x6 :: x7 :: x8 :: x9 :: x10 :: x11 :: S0) S k = WK vs (x0 :: x1 :: x2 :: x3 :: x4 :: x5 :: x6 :: x7 :: x8 :: x9 :: x10 :: x11 :: S0) S fun S' => WP 11 (bkV x11) S' k := WK_c rfl
theorem WK_12 {vs : List Nat} {x0 x1 x2 x3 x4 x5 x6 x7 x8 x9 x10 x11 x12 : Sv} {S0 : Slots} {k : Slots → Prop} : WK (12 :: vs) (x0 :: x1 :: x2 :: x3 :: x4 :: x5 :: x6 :: x7 :: x8 :: x9 :: x10 :: x11 :: x12 :: S0) S k = WK vs (x0 :: x1 :: x2 :: x3 :: x4 :: x5 :: x6 :: x7 :: x8 :: x9 :: x10 :: x11 :: x12 :: S0) S fun S' => WP 12 (bkV x12) S' k := WK_c rfl
theorem WK_13 {vs : List Nat} {x0 x1 x2 x3 x4 x5 x6 x7 x8 x9 x10 x11 x12 x13 : Sv} {S0 : Slots} {k : Slots → Prop} : WK (13 :: vs) (x0 :: x1 :: x2 :: x3 :: x4 :: x5 :: x6 :: x7 :: x8 :: x9 :: x10 :: x11 :: x12 :: x13 :: S0) S k = WK vs (x0 :: x1 :: x2 :: x3 :: x4 :: x5 :: x6 :: x7 :: x8 :: x9 :: x10 :: x11 :: x12 :: x13 :: S0) S fun S' => WP 13 (bkV x13) S' k := WK_c rfl
theorem WK_14 {vs : List Nat} {x0 x1 x2 x3 x4 x5 x6 x7 x8 x9 x10 x11 x12 x13 x14 : Sv} {S0 : Slots} {k : Slots → Prop} : WK (14 :: vs) (x0 :: x1 :: x2 :: x3 :: x4 :: x5 :: x6 :: x7 :: x8 :: x9 :: x10 :: x11 :: x12 :: x13 :: x14 :: S0) S k = WK vs (x0 :: x1 :: x2 :: x3 :: x4 :: x5 :: x6 :: x7 :: x8 :: x9 :: x10 :: x11 :: x12 :: x13 :: x14 :: S0) S fun S' => WP 14 (bkV x14) S' k := WK_c rfl
theorem WK_15 {vs : List Nat} {x0 x1 x2 x3 x4 x5 x6 x7 x8 x9 x10 x11 x12 x13 x14 x15 : Sv} {S0 : Slots} {k : Slots → Prop} : WK (15 :: vs) (x0 :: x1 :: x2 :: x3 :: x4 :: x5 :: x6 :: x7 :: x8 :: x9 :: x10 :: x11 :: x12 :: x13 :: x14 :: x15 :: S0) S k = WK vs (x0 :: x1 :: x2 :: x3 :: x4 :: x5 :: x6 :: x7 :: x8 :: x9 :: x10 :: x11 :: x12 :: x13 :: x14 :: x15 :: S0) S fun S' => WP 15 (bkV x15) S' k := WK_c rfl
theorem WK_16 {vs : List Nat} {x0 x1 x2 x3 x4 x5 x6 x7 x8 x9 x10 x11 x12 x13 x14 x15 x16 : Sv} {S0 : Slots} {k : Slots → Prop} : WK (16 :: vs) (x0 :: x1 :: x2 :: x3 :: x4 :: x5 :: x6 :: x7 :: x8 :: x9 :: x10 :: x11 :: x12 :: x13 :: x14 :: x15 :: x16 :: S0) S k = WK vs (x0 :: x1 :: x2 :: x3 :: x4 :: x5 :: x6 :: x7 :: x8 :: x9 :: x10 :: x11 :: x12 :: x13 :: x14 :: x15 :: x16 :: S0) S fun S' => WP 16 (bkV x16) S' k := WK_c rfl
theorem WK_17 {vs : List Nat} {x0 x1 x2 x3 x4 x5 x6 x7 x8 x9 x10 x11 x12 x13 x14 x15 x16 x17 : Sv} {S0 : Slots} {k : Slots → Prop} : WK (17 :: vs) (x0 :: x1 :: x2 :: x3 :: x4 :: x5 :: x6 :: x7 :: x8 :: x9 :: x10 :: x11 :: x12 :: x13 :: x14 :: x15 :: x16 :: x17 :: S0) S k = WK vs (x0 :: x1 :: x2 :: x3 :: x4 :: x5 :: x6 :: x7 :: x8 :: x9 :: x10 :: x11 :: x12 :: x13 :: x14 :: x15 :: x16 :: x17 :: S0) S fun S' => WP 17 (bkV x17) S' k := WK_c rfl
theorem WK_18 {vs : List Nat} {x0 x1 x2 x3 x4 x5 x6 x7 x8 x9 x10 x11 x12 x13 x14 x15 x16 x17 x18 : Sv} {S0 : Slots} {k : Slots → Prop} : WK (18 :: vs) (x0 :: x1 :: x2 :: x3 :: x4 :: x5 :: x6 :: x7 :: x8 :: x9 :: x10 :: x11 :: x12 :: x13 :: x14 :: x15 :: x16 :: x17 :: x18 :: S0) S k = WK vs (x0 :: x1 :: x2 :: x3 :: x4 :: x5 :: x6 :: x7 :: x8 :: x9 :: x10 :: x11 :: x12 :: x13 :: x14 :: x15 :: x16 :: x17 :: x18 :: S0) S fun S' => WP 18 (bkV x18) S' k := WK_c rfl
theorem WK_19 {vs : List Nat} {x0 x1 x2 x3 x4 x5 x6 x7 x8 x9 x10 x11 x12 x13 x14 x15 x16 x17 x18 x19 : Sv} {S0 : Slots} {k : Slots → Prop} : WK (19 :: vs) (x0 :: x1 :: x2 :: x3 :: x4 :: x5 :: x6 :: x7 :: x8 :: x9 :: x10 :: x11 :: x12 :: x13 :: x14 :: x15 :: x16 :: x17 :: x18 :: x19 :: S0) S k = WK vs (x0 :: x1 :: x2 :: x3 :: x4 :: x5 :: x6 :: x7 :: x8 :: x9 :: x10 :: x11 :: x12 :: x13 :: x14 :: x15 :: x16 :: x17 :: x18 :: x19 :: S0) S fun S' => WP 19 (bkV x19) S' k := WK_c rfl
theorem WK_20 {vs : List Nat} {x0 x1 x2 x3 x4 x5 x6 x7 x8 x9 x10 x11 x12 x13 x14 x15 x16 x17 x18 x19 x20 : Sv} {S0 : Slots} {k : Slots → Prop} : WK (20 :: vs) (x0 :: x1 :: x2 :: x3 :: x4 :: x5 :: x6 :: x7 :: x8 :: x9 :: x10 :: x11 :: x12 :: x13 :: x14 :: x15 :: x16 :: x17 :: x18 :: x19 :: x20 :: S0) S k = WK vs (x0 :: x1 :: x2 :: x3 :: x4 :: x5 :: x6 :: x7 :: x8 :: x9 :: x10 :: x11 :: x12 :: x13 :: x14 :: x15 :: x16 :: x17 :: x18 :: x19 :: x20 :: S0) S fun S' => WP 20 (bkV x20) S' k := WK_c rfl
theorem WK_21 {vs : List Nat} {x0 x1 x2 x3 x4 x5 x6 x7 x8 x9 x10 x11 x12 x13 x14 x15 x16 x17 x18 x19 x20 x21 : Sv} {S0 : Slots} {k : Slots → Prop} : WK (21 :: vs) (x0 :: x1 :: x2 :: x3 :: x4 :: x5 :: x6 :: x7 :: x8 :: x9 :: x10 :: x11 :: x12 :: x13 :: x14 :: x15 :: x16 :: x17 :: x18 :: x19 :: x20 :: x21 :: S0) S k = WK vs (x0 :: x1 :: x2 :: x3 :: x4 :: x5 :: x6 :: x7 :: x8 :: x9 :: x10 :: x11 :: x12 :: x13 :: x14 :: x15 :: x16 :: x17 :: x18 :: x19 :: x20 :: x21 :: S0) S fun S' => WP 21 (bkV x21) S' k := WK_c rfl
theorem WK_22 {vs : List Nat} {x0 x1 x2 x3 x4 x5 x6 x7 x8 x9 x10 x11 x12 x13 x14 x15 x16 x17 x18 x19 x20 x21 x22 : Sv} {S0 : Slots} {k : Slots → Prop} : WK (22 :: vs) (x0 :: x1 :: x2 :: x3 :: x4 :: x5 :: x6 :: x7 :: x8 :: x9 :: x10 :: x11 :: x12 :: x13 :: x14 :: x15 :: x16 :: x17 :: x18 :: x19 :: x20 :: x21 :: x22 :: S0) S k = WK vs (x0 :: x1 :: x2 :: x3 :: x4 :: x5 :: x6 :: x7 :: x8 :: x9 :: x10 :: x11 :: x12 :: x13 :: x14 :: x15 :: x16 :: x17 :: x18 :: x19 :: x20 :: x21 :: x22 :: S0) S fun S' => WP 22 (bkV x22) S' k := WK_c rfl
theorem WK_23 {vs : List Nat} {x0 x1 x2 x3 x4 x5 x6 x7 x8 x9 x10 x11 x12 x13 x14 x15 x16 x17 x18 x19 x20 x21 x22 x23 : Sv} {S0 : Slots} {k : Slots → Prop} : WK (23 :: vs) (x0 :: x1 :: x2 :: x3 :: x4 :: x5 :: x6 :: x7 :: x8 :: x9 :: x10 :: x11 :: x12 :: x13 :: x14 :: x15 :: x16 :: x17 :: x18 :: x19 :: x20 :: x21 :: x22 :: x23 :: S0) S k = WK vs (x0 :: x1 :: x2 :: x3 :: x4 :: x5 :: x6 :: x7 :: x8 :: x9 :: x10 :: x11 :: x12 :: x13 :: x14 :: x15 :: x16 :: x17 :: x18 :: x19 :: x20 :: x21 :: x22 :: x23 :: S0) S fun S' => WP 23 (bkV x23) S' k := WK_c rfl
theorem WK_24 {vs : List Nat} {x0 x1 x2 x3 x4 x5 x6 x7 x8 x9 x10 x11 x12 x13 x14 x15 x16 x17 x18 x19 x20 x21 x22 x23 x24 : Sv} {S0 : Slots} {k : Slots → Prop} : WK (24 :: vs) (x0 :: x1 :: x2 :: x3 :: x4 :: x5 :: x6 :: x7 :: x8 :: x9 :: x10 :: x11 :: x12 :: x13 :: x14 :: x15 :: x16 :: x17 :: x18 :: x19 :: x20 :: x21 :: x22 :: x23 :: x24 :: S0) S k = WK vs (x0 :: x1 :: x2 :: x3 :: x4 :: x5 :: x6 :: x7 :: x8 :: x9 :: x10 :: x11 :: x12 :: x13 :: x14 :: x15 :: x16 :: x17 :: x18 :: x19 :: x20 :: x21 :: x22 :: x23 :: x24 :: S0) S fun S' => WP 24 (bkV x24) S' k := WK_c rfl
theorem WK_25 {vs : List Nat} {x0 x1 x2 x3 x4 x5 x6 x7 x8 x9 x10 x11 x12 x13 x14 x15 x16 x17 x18 x19 x20 x21 x22 x23 x24 x25 : Sv} {S0 : Slots} {k : Slots → Prop} : WK (25 :: vs) (x0 :: x1 :: x2 :: x3 :: x4 :: x5 :: x6 :: x7 :: x8 :: x9 :: x10 :: x11 :: x12 :: x13 :: x14 :: x15 :: x16 :: x17 :: x18 :: x19 :: x20 :: x21 :: x22 :: x23 :: x24 :: x25 :: S0) S k = WK vs (x0 :: x1 :: x2 :: x3 :: x4 :: x5 :: x6 :: x7 :: x8 :: x9 :: x10 :: x11 :: x12 :: x13 :: x14 :: x15 :: x16 :: x17 :: x18 :: x19 :: x20 :: x21 :: x22 :: x23 :: x24 :: x25 :: S0) S fun S' => WP 25 (bkV x25) S' k := WK_c rfl
theorem WK_26 {vs : List Nat} {x0 x1 x2 x3 x4 x5 x6 x7 x8 x9 x10 x11 x12 x13 x14 x15 x16 x17 x18 x19 x20 x21 x22 x23 x24 x25 x26 : Sv} {S0 : Slots} {k : Slots → Prop} : WK (26 :: vs) (x0 :: x1 :: x2 :: x3 :: x4 :: x5 :: x6 :: x7 :: x8 :: x9 :: x10 :: x11 :: x12 :: x13 :: x14 :: x15 :: x16 :: x17 :: x18 :: x19 :: x20 :: x21 :: x22 :: x23 :: x24 :: x25 :: x26 :: S0) S k = WK vs (x0 :: x1 :: x2 :: x3 :: x4 :: x5 :: x6 :: x7 :: x8 :: x9 :: x10 :: x11 :: x12 :: x13 :: x14 :: x15 :: x16 :: x17 :: x18 :: x19 :: x20 :: x21 :: x22 :: x23 :: x24 :: x25 :: x26 :: S0) S fun S' => WP 26 (bkV x26) S' k := WK_c rfl
theorem WK_27 {vs : List Nat} {x0 x1 x2 x3 x4 x5 x6 x7 x8 x9 x10 x11 x12 x13 x14 x15 x16 x17 x18 x19 x20 x21 x22 x23 x24 x25 x26 x27 : Sv} {S0 : Slots} {k : Slots → Prop} : WK (27 :: vs) (x0 :: x1 :: x2 :: x3 :: x4 :: x5 :: x6 :: x7 :: x8 :: x9 :: x10 :: x11 :: x12 :: x13 :: x14 :: x15 :: x16 :: x17 :: x18 :: x19 :: x20 :: x21 :: x22 :: x23 :: x24 :: x25 :: x26 :: x27 :: S0) S k = WK vs (x0 :: x1 :: x2 :: x3 :: x4 :: x5 :: x6 :: x7 :: x8 :: x9 :: x10 :: x11 :: x12 :: x13 :: x14 :: x15 :: x16 :: x17 :: x18 :: x19 :: x20 :: x21 :: x22 :: x23 :: x24 :: x25 :: x26 :: x27 :: S0) S fun S' => WP 27 (bkV x27) S' k := WK_c rfl
theorem WK_28 {vs : List Nat} {x0 x1 x2 x3 x4 x5 x6 x7 x8 x9 x10 x11 x12 x13 x14 x15 x16 x17 x18 x19 x20 x21 x22 x23 x24 x25 x26 x27 x28 : Sv} {S0 : Slots} {k : Slots → Prop} : WK (28 :: vs) (x0 :: x1 :: x2 :: x3 :: x4 :: x5 :: x6 :: x7 :: x8 :: x9 :: x10 :: x11 :: x12 :: x13 :: x14 :: x15 :: x16 :: x17 :: x18 :: x19 :: x20 :: x21 :: x22 :: x23 :: x24 :: x25 :: x26 :: x27 :: x28 :: S0) S k = WK vs (x0 :: x1 :: x2 :: x3 :: x4 :: x5 :: x6 :: x7 :: x8 :: x9 :: x10 :: x11 :: x12 :: x13 :: x14 :: x15 :: x16 :: x17 :: x18 :: x19 :: x20 :: x21 :: x22 :: x23 :: x24 :: x25 :: x26 :: x27 :: x28 :: S0) S fun S' => WP 28 (bkV x28) S' k := WK_c rfl
theorem WK_29 {vs : List Nat} {x0 x1 x2 x3 x4 x5 x6 x7 x8 x9 x10 x11 x12 x13 x14 x15 x16 x17 x18 x19 x20 x21 x22 x23 x24 x25 x26 x27 x28 x29 : Sv} {S0 : Slots} {k : Slots → Prop} : WK (29 :: vs) (x0 :: x1 :: x2 :: x3 :: x4 :: x5 :: x6 :: x7 :: x8 :: x9 :: x10 :: x11 :: x12 :: x13 :: x14 :: x15 :: x16 :: x17 :: x18 :: x19 :: x20 :: x21 :: x22 :: x23 :: x24 :: x25 :: x26 :: x27 :: x28 :: x29 :: S0) S k = WK vs (x0 :: x1 :: x2 :: x3 :: x4 :: x5 :: x6 :: x7 :: x8 :: x9 :: x10 :: x11 :: x12 :: x13 :: x14 :: x15 :: x16 :: x17 :: x18 :: x19 :: x20 :: x21 :: x22 :: x23 :: x24 :: x25 :: x26 :: x27 :: x28 :: x29 :: S0) S fun S' => WP 29 (bkV x29) S' k := WK_c rfl
noncomputable def WW : List Nat → Slots → (Slots → Prop) → Prop := fun vs S k => k (wipeS S vs)
theorem WW_n {k : Slots → Prop} : WW [] S k = k S := id rfl
theorem WW_c {vs : List Nat} {k : Slots → Prop} : WW (i :: vs) S k = WW vs S fun S' => WP i .no S' k := id rfl
noncomputable def LC (vs : List Nat) (bt : MT) (gt : M Bool) (ge : M D) (ds : List D) (S : Slots) (k : List D → Slots → Prop) : Prop := W (lcLoop vs bt gt ge ds []) S fun acc S2 => k acc (backS S (wipeS S2 vs) vs)
theorem V_gLc {vs : List Nat} {gi : M (List D)} {bt : MT} {gt : M Bool} {ge : M D} {K : Pv → Slots → Prop} : W (gLc vs gi bt gt ge) S K = W gi S fun ds S1 => LC vs bt gt ge ds S1 fun acc S' => K (.fr (.lst acc)) S' := W_gLc
/-- a loop by an invariant -/
noncomputable def flK (A : Slots → Prop) (K : Fl → Slots → Prop) (S : Slots) : Fl → Prop
  | .nx => A S
  | .ct => A S
  | .bk => K .nx S
  | .rt pv => K (.rt pv) S
theorem flK_nx {A : Slots → Prop} {K : Fl → Slots → Prop} : flK A K S .nx = A S := id rfl
theorem flK_ct {A : Slots → Prop} {K : Fl → Slots → Prop} : flK A K S .ct = A S := id rfl
theorem flK_bk {A : Slots → Prop} {K : Fl → Slots → Prop} : flK A K S .bk = K .nx S := id rfl
theorem flK_rt {A : Slots → Prop} {K : Fl → Slots → Prop} : flK A K S (.rt pv) = K (.rt pv) S := id rfl
theorem V_loop {bt : MT} {g : M Fl} {K : Fl → Slots → Prop} (I : Nat → Slots → Prop) {ds : List D} {S : Slots} (hi : I 0 S) (h : ∀ (j : Nat) (d : D) (S : Slots), ds[j]? = some d → I j S → W (bt d) S fun _ S1 => W g S1 fun fl S2 => flK (I (j + 1)) K S2 fl) (hk : ∀ S, I ds.length S → K .nx S) : W (loop bt g ds) S K := by
  refine W_loop (k := 0) I hi ?_ ?_
  · intro j d S hd q
    rw [Nat.zero_add] at *
    refine (h j d S hd q).mono fun _ S1 h1 => h1.mono fun fl S2 h2 => ?_
    cases fl <;> exact h2
  · intro S q
    rw [Nat.zero_add] at q
    exact hk S q
theorem V_gFor {gi : M (List D)} {bt : MT} {g : M Fl} {K : Fl → Slots → Prop} : W (gFor gi bt g) S K = W gi S fun ds S1 => W (loop bt g ds) S1 K := W_gFor
/-! targets -/
theorem V_bNil {K : Unit → Slots → Prop} : W (bNil []) S K = K () S := id rfl
theorem V_bCons {bt : MT} {bs : MTs} {r : List D} {K : Unit → Slots → Prop} : W (bCons bt bs (d :: r)) S K = W (bt d) S fun _ S1 => W (bs r) S1 K := W_bind
theorem V_bTup {bs : MTs} {ds : List D} {K : Unit → Slots → Prop} (h : ds.length = n) : W (bTup n bs (.tup ds)) S K = W (bs ds) S K := by
  have e : bTup n bs (.tup ds) = bs ds := if_pos h
  rw [e]
/-! iterators -/
theorem V_gRange1 {g : M D} {K : List D → Slots → Prop} : W (gRange1 g) S K = W g S fun d S1 => WL (asI d) fun j => WC (inR j = true) (K (rangeD 0 j) S1) := W_gRange1
theorem V_gRange2 {ga gb : M D} {K : List D → Slots → Prop} : W (gRange2 ga gb) S K = W ga S fun d S1 => W gb S1 fun e S2 => WL (asI d) fun i => WL (asI e) fun j => WC (inR i = true) (WC (inR j = true) (K (rangeD i j) S2)) := by
  rw [W_gRange2]; congr 1; funext d S1; congr 1; funext e S2; congr 1; funext i; congr 1; funext j; unfold WC; exact propext and_assoc
theorem inR_ok {j : Int} (h1 : -4611686018427387904 ≤ j) (h2 : j < 4611686018427387904) : inR j = true := by
  unfold inR; rw [Bool.and_eq_true]; exact ⟨decide_eq_true (by omega), decide_eq_true (by omega)⟩
theorem WC_inR {j : Int} {A : Prop} (h1 : -4611686018427387904 ≤ j) (h2 : j < 4611686018427387904) : WC (inR j = true) A = A := WC_ok (inR_ok h1 h2)
theorem rangeD_nat {k : Nat} : rangeD 0 (k : Int) = (List.range k).map fun i : Nat => D.int (i : Int) := by
  unfold rangeD
  rw [Int.sub_zero, Int.toNat_natCast]
  exact List.map_congr_left fun i _ => by rw [Int.zero_add]
theorem asI_i {j : Int} {K : Int → Prop} : WL (asI (.int j)) K = K j := id rfl
theorem seq_l {ds : List D} {K : List D → Prop} : WL (seqD (.lst ds)) K = K ds := id rfl
theorem seq_t {ds : List D} {K : List D → Prop} : WL (seqD (.tup ds)) K = K ds := id rfl
/-! fields -/
noncomputable def fldK (c : Nat) (f : Str) (k : D → Prop) : D → Prop
  | .ins c' fs ds => c' = c ∧ WL (fldD f fs ds) k
  | _ => False
theorem fldK_i {c : Nat} {f : Str} {fs : List Str} {ds : List D} {k : D → Prop} : fldK c f k (.ins c fs ds) = WL (fldD f fs ds) k := by simp [fldK]
theorem V_gFld {c : Nat} {f : Str} {g : M Pd} {K : D → Slots → Prop} : W (gFld c f g) S K = W g S fun p S1 => WL (drf S1 p) (fldK c f fun y => K y S1) := by
  rw [W_gFld]
  have e : (fun (p : Pd) S1 => WL (drf S1 p) fun d => match d with
    | .ins c' fs ds => c' = c ∧ WL (fldD f fs ds) fun y => K y S1
    | _ => False) = fun p S1 => WL (drf S1 p) (fldK c f fun y => K y S1) := by
    funext p S1
    first | rfl | (congr 1; funext d; cases d <;> rfl)
  exact congrArg (W g S) e
theorem fld_y {f : Str} {ns : List Str} {ds : List D} {k : D → Prop} : WL (fldD f (f :: ns) (d :: ds)) k = k d := by unfold fldD; rw [if_pos rfl]; rfl
theorem fld_n {f n : Str} {ns : List Str} {ds : List D} {k : D → Prop} (h : ¬ f = n) : WL (fldD f (n :: ns) (d :: ds)) k = WL (fldD f ns ds) k := by rw [show fldD f (n :: ns) (d :: ds) = fldD f ns ds from if_neg h]
noncomputable def WN (f : Str) (d : D) (fs : List Str) (ds : List D) (k : List Str → List D → Prop) : Prop := k (putN f fs) (putD f d fs ds)
theorem WN_n {f : Str} {k : List Str → List D → Prop} : WN f d [] [] k = k [f] [d] := id rfl
theorem WN_y {f : Str} {ns : List Str} {e : D} {ds : List D} {k : List Str → List D → Prop} : WN f d (f :: ns) (e :: ds) k = k (f :: ns) (d :: ds) := by unfold WN putN putD; simp
theorem WN_o {f n : Str} {ns : List Str} {e : D} {ds : List D} {k : List Str → List D → Prop} (h : ¬ n = f) : WN f d (n :: ns) (e :: ds) k = WN f d ns ds fun a c => k (n :: a) (e :: c) := by
  show k (putN f (n :: ns)) (putD f d (n :: ns) (e :: ds)) = _
  rw [show putN f (n :: ns) = n :: putN f ns from if_neg h, show putD f d (n :: ns) (e :: ds) = e :: putD f d ns ds from if_neg h]; rfl
noncomputable def setFK (c : Nat) (f : Str) (d : D) (k : Sv → Prop) : Sv → Prop
  | .own (.ins c' fs ds) b => c' = c ∧ fs.length < 1000 ∧ WN f d fs ds fun fs' ds' => k (.own (.ins c fs' ds') b)
  | _ => False
theorem setFK_o {c : Nat} {f : Str} {fs : List Str} {ds : List D} {k : Sv → Prop} (h : fs.length < 1000) : setFK c f d k (.own (.ins c fs ds) b) = WN f d fs ds fun fs' ds' => k (.own (.ins c fs' ds') b) := by simp [setFK, h]
theorem V_gSetF {c : Nat} {f : Str} {g : M D} {K : Fl → Slots → Prop} : W (gSetF i c f g) S K = W g S fun d S1 => WS i S1 (setFK c f d fun sv => WP i sv S1 (K .nx)) := by
  rw [W_gSetF]; congr 1; funext d S1; unfold WS
  cases h : S1[i]? with
  | none => simp only [h]; exact eq_false fun ⟨_, _, _, e, _⟩ => by cases e
  | some sv => cases sv with
    | no => simp only [h]; exact eq_false fun ⟨_, _, _, e, _⟩ => by cases e
    | cb _ => simp only [h]; exact eq_false fun ⟨_, _, _, e, _⟩ => by cases e
    | val d => simp only [h]; exact eq_false fun ⟨_, _, _, e, _⟩ => by cases e
    | own o b => cases o with
      | lst ds => simp only [h]; exact eq_false fun ⟨_, _, _, e, _⟩ => by cases e
      | dic ks ds => simp only [h]; exact eq_false fun ⟨_, _, _, e, _⟩ => by cases e
      | ins c' fs ds =>
        simp only [setFK]
        refine propext ⟨fun ⟨fs', ds', b', e, hl, q⟩ => ?_, fun ⟨e, hl, q⟩ => ?_⟩
        · cases e; exact ⟨rfl, hl, q⟩
        · subst e; exact ⟨fs, ds, b, rfl, hl, q⟩
/-! instances -/
noncomputable def madeK (K : Ov → Prop) : Sv → Prop
  | .own o false => K o
  | _ => False
theorem madeK_o {K : Ov → Prop} : madeK K (.own o false) = K o := id rfl
noncomputable def nonK (A : Prop) : Pv → Prop
  | .dat .non => A
  | _ => False
theorem nonK_n {A : Prop} : nonK A (.dat .non) = A := id rfl
noncomputable def mkK (K : Ov → List Rv → Prop) : Rv → List Rv → Prop
  | .val .non, .own o :: as2 => K o as2
  | _, _ => False
theorem mkK_o {K : Ov → List Rv → Prop} {o : Ov} {as2 : List Rv} : mkK K (.val .non) (.own o :: as2) = K o as2 := id rfl
/-! methods, properties -/
noncomputable def isInsK (c : Nat) (f : Str) (A : Prop) (d : D) : Prop := isIns c f d = true ∧ A
theorem isInsK_i {c : Nat} {f : Str} {A : Prop} {fs : List Str} {ds : List D} (h : fs.contains f = false) : isInsK c f A (.ins c fs ds) = A := by
  have e : isIns c f (.ins c fs ds) = (decide (c = c) && !fs.contains f) := id rfl
  unfold isInsK
  rw [e, h]
  simp
theorem V_gMethA {c : Nat} {f : Str} {fn : Fn} {gp : M Pd} {ga gb : M (List AK)} {K : Pv → Slots → Prop} : W (gMethA c f fn n m gp ga gb) S K = W gp S fun p S1 => WL (drf S1 p) fun d => isInsK c f (W ga S1 fun a S2 => W gb S2 fun b S3 => W (callN fn (n + 1) m (akOf p :: a) b) S3 K) d := by
  unfold gMethA
  rw [W_bind]; congr 1; funext p S1
  unfold W
  cases h1 : drf S1 p with
  | none => simp only [h1]; rfl
  | some d =>
    simp only [h1]
    show _ = isInsK c f _ d
    unfold isInsK
    by_cases h : isIns c f d = true
    · rw [if_pos h, eq_true h, true_and]
      show W (M.bind ga _) S1 K = _
      rw [W_bind]
      show W ga S1 _ = W ga S1 _
      congr 1; funext a S2; rw [W_bind]; rfl
    · rw [if_neg h]
      exact (eq_false fun q => h q.1).symm
noncomputable def insK (c : Nat) (A : Prop) : D → Prop
  | .ins c' _ _ => c' = c ∧ A
  | _ => False
theorem insK_i {c : Nat} {A : Prop} {fs : List Str} {ds : List D} : insK c A (.ins c fs ds) = A := by simp [insK]
theorem V_gProp {c : Nat} {fn : Fn} {g : M Pd} {K : Pv → Slots → Prop} : W (gProp c fn g) S K = W g S fun p S1 => WL (drf S1 p) fun d => insK c (W (callK fn [] [akOf p]) S1 K) d := by
  unfold gProp
  rw [W_bind]; congr 1; funext p S1
  unfold W
  cases h1 : drf S1 p with
  | none => simp only [h1]; rfl
  | some d =>
    simp only [h1]
    show _ = insK c _ d
    cases d with
    | ins c' fs ds =>
      simp only [insK]
      by_cases h : c' = c
      · simp only [h, if_true, true_and]
        cases callK fn [] [akOf p] S1 <;> rfl
      · simp only [h, if_false, false_and]
    | _ => rfl
theorem V_gTupRg {ga : M D} {K : D → Slots → Prop} : W (gTupRg ga) S K = W ga S fun d S1 => WL (asI d) fun j => WC (rgSmall 0 j = true) (K (.tup (rangeD 0 j)) S1) := W_gTupRg
theorem rgS_ok {j : Int} (h1 : 0 ≤ j) (h2 : j ≤ 16777216) : rgSmall 0 j = true := by
  unfold rgSmall; rw [Bool.and_eq_true, Bool.and_eq_true]; exact ⟨⟨inR_ok (by omega) (by omega), inR_ok (by omega) (by omega)⟩, decide_eq_true (by omega)⟩
theorem WC_rgS {j : Int} {A : Prop} (h1 : 0 ≤ j) (h2 : j ≤ 16777216) : WC (rgSmall 0 j = true) A = A := WC_ok (rgS_ok h1 h2)
noncomputable def bK (k : Bool → Prop) : Pv → Prop
  | .dat (.bl b) => k b
  | _ => False
theorem bK_b {k : Bool → Prop} : bK k (.dat (.bl b)) = k b := id rfl
theorem V_gChain {o o' : D → D → Option Pv} {ga gb gc : M Pd} {K : D → Slots → Prop} : W (gChain o o' ga gb gc) S K = W ga S fun a S1 => W gb S1 fun b S2 => WL (drf S2 a) fun x => WL (drf S2 b) fun y => WL (o x y) (bK fun t => WB t (W gc S2 fun c S3 => WL (drf S3 b) fun y' => WL (drf S3 c) fun z => WL (o' y' z) (bK fun t => K (.bl t) S3)) (K (.bl false) S2)) := by
  unfold gChain
  rw [W_bind]; congr 1; funext a S1
  rw [W_bind]; congr 1; funext b S2
  unfold W WL
  cases h1 : drf S2 a with
  | none => simp only [h1]
  | some x => cases h2 : drf S2 b with
    | none => simp only [h1, h2]
    | some y =>
      simp only [h1, h2]
      cases h3 : o x y with
      | none => simp only [h3]
      | some pv => cases pv with
        | sl i => simp only [h3, bK]
        | fr o => simp only [h3, bK]
        | dat d => cases d with
          | bl t => cases t with
            | false => simp only [h3, bK, WB_f]
            | true =>
              simp only [h3, bK, WB_t, M.bind]
              cases gc S2 with
              | bad => rfl
              | exc x S' => rfl
              | ok p =>
                obtain ⟨c, S3⟩ := p
                simp only []
                cases h4 : drf S3 b with
                | none => simp only [h4]
                | some y' => cases h5 : drf S3 c with
                  | none => simp only [h4, h5]
                  | some z =>
                    simp only [h4, h5]
                    cases h6 : o' y' z with
                    | none => simp only [h6]
                    | some pv => cases pv with
                      | sl i => simp only [h6, bK]
                      | fr o => simp only [h6, bK]
                      | dat d => cases d <;> simp only [h6, bK]
          | _ => simp only [h3, bK]
/-! operators -/
theorem mod_ok {i j : Int} {K : Pv → Prop} (h : 0 < j) : WL (oMod (.int i) (.int j)) K = K (.dat (.int (i % j))) := WL_modI h
theorem fdiv_ok {i j : Int} {K : Pv → Prop} (h : 0 < j) (h2 : j < 1267650600228229401496703205376) : WL (oFdiv (.int i) (.int j)) K = K (.dat (.int (i / j))) := WL_fdivI h (div_small (by omega))
theorem mul_ok {i j : Int} {K : Pv → Prop} (h1 : -1267650600228229401496703205376 ≤ i) (h2 : i ≤ 1267650600228229401496703205376) (h3 : -1267650600228229401496703205376 ≤ j) (h4 : j ≤ 1267650600228229401496703205376) : WL (oMul (.int i) (.int j)) K = K (.dat (.int (i * j))) := WL_mulI (mul_small (by omega) (by omega))
theorem pow_18 {K : Pv → Prop} : WL (oPow (.int 10) (.int 18)) K = K (.dat (.int 1000000000000000000)) := WL_powI (by omega) (by omega) (by omega)
theorem pow_3 {i : Int} {K : Pv → Prop} (h1 : -18446744073709551616 < i) (h2 : i < 18446744073709551616) : WL (oPow (.int i) (.int 3)) K = K (.dat (.int (i ^ 3))) := WL_powI (by omega) (by omega) (by omega)
theorem mul_rep2 {x : D} {K : Pv → Prop} : WL (oMul (.lst [x]) (.int 2)) K = K (.fr (.lst [x, x])) := id rfl
theorem oMin_i {i j : Int} {K : Pv → Prop} : WL (oMin2 [.int i, .int j]) K = K (.dat (.int (if j < i then j else i))) := id rfl
theorem oMax_i {i j : Int} {K : Pv → Prop} : WL (oMax2 [.int i, .int j]) K = K (.dat (.int (if j > i then j else i))) := id rfl
theorem oAdd_l {xs ys : List D} {K : Pv → Prop} (h : xs.length + ys.length ≤ sizeLine) : WL (oAdd (.lst xs) (.lst ys)) K = K (.fr (.lst (xs ++ ys))) := by exact WL_of (if_pos h)
theorem isN_n {K : Pv → Prop} : WL (oIsN .non .non) K = K (.dat (.bl true)) := id rfl
theorem isN_b {K : Pv → Prop} : WL (oIsN (.bl b) .non) K = K (.dat (.bl false)) := id rfl
theorem isN_i {i : Int} {K : Pv → Prop} : WL (oIsN (.int i) .non) K = K (.dat (.bl false)) := id rfl
theorem isN_s {x : Str} {K : Pv → Prop} : WL (oIsN (.str x) .non) K = K (.dat (.bl false)) := id rfl
theorem isN_t {ds : List D} {K : Pv → Prop} : WL (oIsN (.tup ds) .non) K = K (.dat (.bl false)) := id rfl
theorem isN_l {ds : List D} {K : Pv → Prop} : WL (oIsN (.lst ds) .non) K = K (.dat (.bl false)) := id rfl
theorem notN_n {K : Pv → Prop} : WL (oNotN .non .non) K = K (.dat (.bl false)) := id rfl
theorem notN_b {K : Pv → Prop} : WL (oNotN (.bl b) .non) K = K (.dat (.bl true)) := id rfl
theorem notN_i {i : Int} {K : Pv → Prop} : WL (oNotN (.int i) .non) K = K (.dat (.bl true)) := id rfl
theorem notN_s {x : Str} {K : Pv → Prop} : WL (oNotN (.str x) .non) K = K (.dat (.bl true)) := id rfl
theorem notN_t {ds : List D} {K : Pv → Prop} : WL (oNotN (.tup ds) .non) K = K (.dat (.bl true)) := id rfl
theorem notN_l {ds : List D} {K : Pv → Prop} : WL (oNotN (.lst ds) .non) K = K (.dat (.bl true)) := id rfl
theorem all_m {α : Type} {p : α → Bool} {xs : List α} {K : Pv → Prop} : WL (oAll [.lst (xs.map fun x => .bl (p x))]) K = K (.dat (.bl (xs.all p))) := by
  have e : blsD (xs.map fun x => .bl (p x)) = some (xs.map p) := by
    induction xs with
    | nil => rfl
    | cons x xs ih => rw [List.map_cons, blsD, ih]; rfl
  have e2 : oAll [.lst (xs.map fun x => .bl (p x))] = some (.dat (.bl ((xs.map p).all id))) := by
    show (blsD _).map _ = _
    rw [e]; rfl
  rw [WL_of e2]
  show K (.dat (.bl ((xs.map p).all id))) = _
  rw [List.all_map]; rfl
theorem any_m {α : Type} {p : α → Bool} {xs : List α} {K : Pv → Prop} : WL (oAny [.lst (xs.map fun x => .bl (p x))]) K = K (.dat (.bl (xs.any p))) := by
  have e : blsD (xs.map fun x => .bl (p x)) = some (xs.map p) := by
    induction xs with
    | nil => rfl
    | cons x xs ih => rw [List.map_cons, blsD, ih]; rfl
  have e2 : oAny [.lst (xs.map fun x => .bl (p x))] = some (.dat (.bl ((xs.map p).any id))) := by
    show (blsD _).map _ = _
    rw [e]; rfl
  rw [WL_of e2]
  show K (.dat (.bl ((xs.map p).any id))) = _
  rw [List.any_map]; rfl
/-! a call's value, told -/
theorem WF.eq {r : FR} {v : Rv} {as : List Rv} (h : WF r fun v' as' => v' = v ∧ as' = as) : r = .ok v as := by
  obtain ⟨v', as', e, rfl, rfl⟩ := h.ok; exact e
end
theorem size_ok {α : Type} {xs : List α} (h : xs.length ≤ 16777216) : xs.length ≤ sizeLine := h
theorem size_lt {α : Type} {xs : List α} (h : xs.length < 16777216) : xs.length < sizeLine := h
theorem size_add {a b : Nat} (h : a + b ≤ 16777216) : a + b ≤ sizeLine := h
end G
namespace G
open PySem
/-! ### data of a type: what two of them are when compared -/
structure Dt {α : Type} (k : Nat) (f : α → D) : Prop where
  py : ∀ a, ∃ p, pyD (f a) = some p ∧ p.canLay0 = true ∧ p.depth ≤ k
  eq : ∀ a b p q, pyD (f a) = some p → pyD (f b) = some q → (PyData.eqv p q = true ↔ a = b)
section
variable {α β γ δ : Type} {k m : Nat} {f : α → D} {g : β → D}
theorem Dt.mono (h : Dt k f) (e : k ≤ m) : Dt m f := ⟨fun a => let ⟨p, h1, h2, h3⟩ := h.py a; ⟨p, h1, h2, by omega⟩, h.eq⟩
theorem Dt.int : Dt 0 D.int := ⟨fun a => ⟨.int a, rfl, rfl, Nat.le_refl _⟩, fun a b p q e1 e2 => by cases e1; cases e2; simp [PyData.eqv]⟩
theorem Dt.nat : Dt 0 (fun n : Nat => D.int n) := ⟨fun a => ⟨.int a, rfl, rfl, Nat.le_refl _⟩, fun a b p q e1 e2 => by cases e1; cases e2; simp [PyData.eqv]; omega⟩
theorem Dt.bl : Dt 0 D.bl := ⟨fun a => ⟨.bool a, rfl, rfl, Nat.le_refl _⟩, fun a b p q e1 e2 => by cases e1; cases e2; simp [PyData.eqv]⟩
noncomputable def onD (o : Option Nat) : D := match o with
  | none => .non
  | some n => .int n
theorem onD_s {n : Nat} : onD (some n) = .int n := id rfl
theorem onD_n : onD none = .non := id rfl
theorem Dt.opt : Dt 0 onD := ⟨fun a => by cases a <;> exact ⟨_, rfl, rfl, Nat.le_refl _⟩, fun a b p q e1 e2 => by cases a <;> cases b <;> (cases e1; cases e2; simp [PyData.eqv]) ; omega⟩
theorem Dt.str {s : α → Str} (hs : ∀ a, PyData.strOk (s a) = true) (hi : ∀ a b, s a = s b → a = b) : Dt 0 (fun a => D.str (s a)) := ⟨fun a => ⟨.str (s a), rfl, hs a, Nat.le_refl _⟩, fun a b p q e1 e2 => by
  cases e1; cases e2
  simp only [PyData.eqv, beq_iff_eq]
  exact ⟨hi a b, fun e => by rw [e]⟩⟩
theorem Dt.pys (h : Dt k f) : ∀ l : List α, ∃ ps, pyDs (l.map f) = some ps ∧ PyData.canLayAll0 ps = true ∧ PyData.depthAll ps ≤ k
  | [] => ⟨[], rfl, rfl, Nat.zero_le _⟩
  | a :: l => by
    obtain ⟨p, h1, h2, h3⟩ := h.py a
    obtain ⟨ps, g1, g2, g3⟩ := Dt.pys h l
    refine ⟨p :: ps, ?_, ?_, ?_⟩
    · rw [List.map_cons, pyDs, h1, g1]
    · rw [PyData.canLayAll0, h2, g2]; rfl
    · rw [PyData.depthAll]; omega
theorem Dt.eqs (h : Dt k f) : ∀ (l r : List α) {ps qs : List PyData}, pyDs (l.map f) = some ps → pyDs (r.map f) = some qs → (PyData.eqvAll ps qs = true ↔ l = r)
  | [], [], ps, qs, e1, e2 => by cases e1; cases e2; simp [PyData.eqvAll]
  | [], b :: r, ps, qs, e1, e2 => by
    cases e1
    obtain ⟨q, h1, _⟩ := h.py b
    obtain ⟨qs', g1, _⟩ := h.pys r
    rw [List.map_cons, pyDs, h1, g1] at e2
    cases e2
    simp [PyData.eqvAll]
  | a :: l, [], ps, qs, e1, e2 => by
    cases e2
    obtain ⟨q, h1, _⟩ := h.py a
    obtain ⟨qs', g1, _⟩ := h.pys l
    rw [List.map_cons, pyDs, h1, g1] at e1
    cases e1
    simp [PyData.eqvAll]
  | a :: l, b :: r, ps, qs, e1, e2 => by
    obtain ⟨p, h1, _⟩ := h.py a
    obtain ⟨ps', g1, _⟩ := h.pys l
    rw [List.map_cons, pyDs, h1, g1] at e1
    cases e1
    obtain ⟨q, h2, _⟩ := h.py b
    obtain ⟨qs', g2, _⟩ := h.pys r
    rw [List.map_cons, pyDs, h2, g2] at e2
    cases e2
    rw [PyData.eqvAll, Bool.and_eq_true, h.eq a b p q h1 h2, Dt.eqs h l r g1 g2, List.cons.injEq]
theorem Dt.lst (h : Dt k f) : Dt (k + 1) (fun l : List α => D.lst (l.map f)) where
  py l := by
    obtain ⟨ps, g1, g2, g3⟩ := h.pys l
    refine ⟨.list ps, ?_, ?_, ?_⟩
    · rw [pyD, g1]; rfl
    · rw [PyData.canLay0]; exact g2
    · rw [PyData.depth]; omega
  eq l r p q e1 e2 := by
    rw [pyD] at e1 e2
    obtain ⟨ps, g1, rfl⟩ := map_some e1
    obtain ⟨qs, g2, rfl⟩ := map_some e2
    rw [PyData.eqv]
    exact h.eqs l r g1 g2
theorem Dt.tup (h : Dt k f) : Dt (k + 1) (fun l : List α => D.tup (l.map f)) where
  py l := by
    obtain ⟨ps, g1, g2, g3⟩ := h.pys l
    refine ⟨.tuple ps, ?_, ?_, ?_⟩
    · rw [pyD, g1]; rfl
    · rw [PyData.canLay0]; exact g2
    · rw [PyData.depth]; omega
  eq l r p q e1 e2 := by
    rw [pyD] at e1 e2
    obtain ⟨ps, g1, rfl⟩ := map_some e1
    obtain ⟨qs, g2, rfl⟩ := map_some e2
    rw [PyData.eqv]
    exact h.eqs l r g1 g2
/-- rows of unlike things -/
structure Dts {α : Type} (k : Nat) (f : α → List D) : Prop where
  py : ∀ a, ∃ ps, pyDs (f a) = some ps ∧ PyData.canLayAll0 ps = true ∧ PyData.depthAll ps ≤ k
  eq : ∀ a b ps qs, pyDs (f a) = some ps → pyDs (f b) = some qs → (PyData.eqvAll ps qs = true ↔ a = b)
theorem Dts.nil : Dts 0 (fun _ : Unit => []) := ⟨fun _ => ⟨[], rfl, rfl, Nat.le_refl _⟩, fun a b ps qs e1 e2 => by cases e1; cases e2; simp [PyData.eqvAll]⟩
theorem Dts.cons {f : α → D} {g : β → List D} (h : Dt k f) (t : Dts k g) : Dts k (fun p : α × β => f p.1 :: g p.2) where
  py a := by
    obtain ⟨p, h1, h2, h3⟩ := h.py a.1
    obtain ⟨ps, g1, g2, g3⟩ := t.py a.2
    refine ⟨p :: ps, ?_, ?_, ?_⟩
    · rw [pyDs, h1, g1]
    · rw [PyData.canLayAll0, h2, g2]; rfl
    · rw [PyData.depthAll]; omega
  eq a b ps qs e1 e2 := by
    obtain ⟨p, h1, _⟩ := h.py a.1
    obtain ⟨ps', g1, _⟩ := t.py a.2
    rw [pyDs, h1, g1] at e1
    cases e1
    obtain ⟨q, h2, _⟩ := h.py b.1
    obtain ⟨qs', g2, _⟩ := t.py b.2
    rw [pyDs, h2, g2] at e2
    cases e2
    rw [PyData.eqvAll, Bool.and_eq_true, h.eq _ _ p q h1 h2, t.eq _ _ _ _ g1 g2]
    exact ⟨fun ⟨e1, e2⟩ => Prod.ext e1 e2, fun e => by rw [e]; exact ⟨rfl, rfl⟩⟩
theorem Dts.mono {f : α → List D} (h : Dts k f) (e : k ≤ m) : Dts m f := ⟨fun a => let ⟨p, h1, h2, h3⟩ := h.py a; ⟨p, h1, h2, by omega⟩, h.eq⟩
theorem Dts.tup {f : α → List D} (h : Dts k f) : Dt (k + 1) (fun a => D.tup (f a)) where
  py l := by
    obtain ⟨ps, g1, g2, g3⟩ := h.py l
    refine ⟨.tuple ps, ?_, ?_, ?_⟩
    · rw [pyD, g1]; rfl
    · rw [PyData.canLay0]; exact g2
    · rw [PyData.depth]; omega
  eq l r p q e1 e2 := by
    rw [pyD] at e1 e2
    obtain ⟨ps, g1, rfl⟩ := map_some e1
    obtain ⟨qs, g2, rfl⟩ := map_some e2
    rw [PyData.eqv]
    exact h.eq l r _ _ g1 g2
theorem Dts.lst {f : α → List D} (h : Dts k f) : Dt (k + 1) (fun a => D.lst (f a)) where
  py l := by
    obtain ⟨ps, g1, g2, g3⟩ := h.py l
    refine ⟨.list ps, ?_, ?_, ?_⟩
    · rw [pyD, g1]; rfl
    · rw [PyData.canLay0]; exact g2
    · rw [PyData.depth]; omega
  eq l r p q e1 e2 := by
    rw [pyD] at e1 e2
    obtain ⟨ps, g1, rfl⟩ := map_some e1
    obtain ⟨qs, g2, rfl⟩ := map_some e2
    rw [PyData.eqv]
    exact h.eq l r _ _ g1 g2
theorem shaped_of {p : PyData} (h1 : p.canLay0 = true) (h2 : p.depth ≤ 64) : SeqAt.shaped p = true := by
  unfold SeqAt.shaped
  rw [h1, decide_eq_true h2]; rfl
variable [DecidableEq α] {a b : α} {l r : List α} {K : Pv → Prop}
theorem Dt.eqB (h : Dt k f) (hk : k ≤ 64) : eqB (f a) (f b) = some (decide (a = b)) := by
  obtain ⟨p, h1, h2, h3⟩ := h.py a
  obtain ⟨q, g1, g2, g3⟩ := h.py b
  unfold G.eqB
  rw [h1, g1]
  show (if (SeqAt.shaped p && SeqAt.shaped q) = true then _ else _) = _
  rw [shaped_of h2 (by omega), shaped_of g2 (by omega), Bool.and_self, if_pos rfl]
  have e := h.eq a b p q h1 g1
  by_cases q' : a = b
  · rw [decide_eq_true q', e.mpr q']
  · rw [decide_eq_false q', Bool.eq_false_iff.mpr fun z => q' (e.mp z)]
theorem Dt.oEq (h : Dt k f) (hk : k ≤ 64) : WL (oEq (f a) (f b)) K = K (.dat (.bl (decide (a = b)))) := WL_of (by unfold G.oEq; rw [h.eqB hk]; rfl)
theorem Dt.oNe (h : Dt k f) (hk : k ≤ 64) : WL (oNe (f a) (f b)) K = K (.dat (.bl (!decide (a = b)))) := WL_of (by unfold G.oNe; rw [h.eqB hk]; rfl)
theorem Dt.any (h : Dt k f) {p : PyData} (hp : pyD (f a) = some p) : ∀ (l : List α) {ps : List PyData}, pyDs (l.map f) = some ps → (ps.any fun z => PyData.eqv z p) = decide (a ∈ l)
  | [], ps, e => by cases e; simp
  | b :: l, ps, e => by
    obtain ⟨q, h1, _⟩ := h.py b
    obtain ⟨qs, g1, _⟩ := h.pys l
    rw [List.map_cons, pyDs, h1, g1] at e
    cases e
    rw [List.any_cons, Dt.any h hp l g1]
    have e := h.eq b a q p h1 hp
    by_cases q' : b = a
    · rw [e.mpr q']; subst q'; simp
    · rw [Bool.eq_false_iff.mpr fun z => q' (e.mp z)]
      simp [Ne.symm q']
theorem Dt.inL (h : Dt k f) (hk : k + 1 ≤ 64) : inB (f a) (.lst (l.map f)) = some (decide (a ∈ l)) := by
  obtain ⟨p, h1, h2, h3⟩ := h.py a
  obtain ⟨ps, g1, g2, g3⟩ := h.pys l
  have e : inB (f a) (.lst (l.map f)) = match pyD (f a), pyDs (l.map f) with
    | some p, some qs => if SeqAt.shaped p && SeqAt.shaped (.list qs) then some (qs.any fun z => PyData.eqv z p) else none
    | _, _ => none := by unfold inB; cases f a <;> rfl
  rw [e, h1, g1]
  show (if (SeqAt.shaped p && SeqAt.shaped (.list ps)) = true then _ else _) = _
  rw [shaped_of h2 (by omega), shaped_of (p := .list ps) (by rw [PyData.canLay0]; exact g2) (by rw [PyData.depth]; omega), Bool.and_self, if_pos rfl, h.any h1 l g1]
theorem Dt.inT (h : Dt k f) (hk : k + 1 ≤ 64) : inB (f a) (.tup (l.map f)) = some (decide (a ∈ l)) := by
  obtain ⟨p, h1, h2, h3⟩ := h.py a
  obtain ⟨ps, g1, g2, g3⟩ := h.pys l
  have e : inB (f a) (.tup (l.map f)) = match pyD (f a), pyDs (l.map f) with
    | some p, some qs => if SeqAt.shaped p && SeqAt.shaped (.tuple qs) then some (qs.any fun z => PyData.eqv z p) else none
    | _, _ => none := by unfold inB; cases f a <;> rfl
  rw [e, h1, g1]
  show (if (SeqAt.shaped p && SeqAt.shaped (.tuple ps)) = true then _ else _) = _
  rw [shaped_of h2 (by omega), shaped_of (p := .tuple ps) (by rw [PyData.canLay0]; exact g2) (by rw [PyData.depth]; omega), Bool.and_self, if_pos rfl, h.any h1 l g1]
theorem Dt.oInL (h : Dt k f) (hk : k + 1 ≤ 64) : WL (oIn (f a) (.lst (l.map f))) K = K (.dat (.bl (decide (a ∈ l)))) := WL_of (by unfold G.oIn; rw [h.inL hk]; rfl)
theorem Dt.oInT (h : Dt k f) (hk : k + 1 ≤ 64) : WL (oIn (f a) (.tup (l.map f))) K = K (.dat (.bl (decide (a ∈ l)))) := WL_of (by unfold G.oIn; rw [h.inT hk]; rfl)
theorem Dt.oNotInL (h : Dt k f) (hk : k + 1 ≤ 64) : WL (oNotIn (f a) (.lst (l.map f))) K = K (.dat (.bl (!decide (a ∈ l)))) := WL_of (by unfold G.oNotIn; rw [h.inL hk]; rfl)
theorem Dt.oNotInT (h : Dt k f) (hk : k + 1 ≤ 64) : WL (oNotIn (f a) (.tup (l.map f))) K = K (.dat (.bl (!decide (a ∈ l)))) := WL_of (by unfold G.oNotIn; rw [h.inT hk]; rfl)
/-- lists of them -/
theorem Dt.oEqL (h : Dt k f) (hk : k + 1 ≤ 64) : WL (G.oEq (.lst (l.map f)) (.lst (r.map f))) K = K (.dat (.bl (decide (l = r)))) := h.lst.oEq hk
theorem Dt.oNeL (h : Dt k f) (hk : k + 1 ≤ 64) : WL (G.oNe (.lst (l.map f)) (.lst (r.map f))) K = K (.dat (.bl (!decide (l = r)))) := h.lst.oNe hk
theorem Dt.oEqN (h : Dt k f) (hk : k + 1 ≤ 64) : WL (G.oEq (.lst (l.map f)) (.lst [])) K = K (.dat (.bl (decide (l = [])))) := h.lst.oEq (b := []) hk
theorem Dt.oNeN (h : Dt k f) (hk : k + 1 ≤ 64) : WL (G.oNe (.lst (l.map f)) (.lst [])) K = K (.dat (.bl (!decide (l = [])))) := h.lst.oNe (b := []) hk
theorem Dt.idx (h : Dt k f) (hk : k + 1 ≤ 64) {kk : List D → D → Prop} (ha : a ∈ l) : LMK (lmIndex (l.map f) [f a]) kk = kk (l.map f) (.int (l.idxOf a : Nat)) := by
  obtain ⟨p, h1, h2, h3⟩ := h.py a
  obtain ⟨ps, g1, g2, g3⟩ := h.pys l
  have e : lmIndex (l.map f) [f a] = some (l.map f, .int (l.idxOf a : Nat)) := by
    have e0 : lmIndex (l.map f) [f a] = match pyDs (l.map f), pyD (f a) with
      | some qs, some p => if SeqAt.shaped (.list qs) && SeqAt.shaped p then (qs.findIdx? fun z => PyData.eqv z p).map fun j => (l.map f, .int (j : Nat)) else none
      | _, _ => none := rfl
    rw [e0, g1, h1]
    show (if (SeqAt.shaped (.list ps) && SeqAt.shaped p) = true then _ else _) = _
    rw [shaped_of h2 (by omega), shaped_of (p := .list ps) (by rw [PyData.canLay0]; exact g2) (by rw [PyData.depth]; omega), Bool.and_self, if_pos rfl]
    have e : ∀ (l : List α) {ps : List PyData}, pyDs (l.map f) = some ps → a ∈ l → ps.findIdx? (fun z => PyData.eqv z p) = some (l.idxOf a) := by
      intro l
      induction l with
      | nil => intro ps _ h; cases h
      | cons b l ih =>
        intro ps e ha
        obtain ⟨q, k1, _⟩ := h.py b
        obtain ⟨qs, k2, _⟩ := h.pys l
        rw [List.map_cons, pyDs, k1, k2] at e
        cases e
        rw [List.findIdx?_cons]
        have e := h.eq b a q p k1 h1
        by_cases q' : b = a
        · rw [e.mpr q']; subst q'; simp
        · rw [Bool.eq_false_iff.mpr fun z => q' (e.mp z)]
          have ha' : a ∈ l := by
            rcases List.mem_cons.mp ha with z | z
            · exact absurd z.symm q'
            · exact z
          simp only [Bool.false_eq_true, if_false]
          rw [ih k2 ha', List.idxOf_cons, show (b == a) = false from beq_eq_false_iff_ne.mpr q']
          rfl
    rw [e l g1 ha]
    rfl
  unfold LMK
  rw [e]
end
theorem eq_bl {a b : Bool} {K : Pv → Prop} : WL (oEq (.bl a) (.bl b)) K = K (.dat (.bl (decide (a = b)))) := Dt.bl.oEq (by decide)
theorem ne_bl {a b : Bool} {K : Pv → Prop} : WL (oNe (.bl a) (.bl b)) K = K (.dat (.bl (!decide (a = b)))) := Dt.bl.oNe (by decide)
theorem intsD_m {α : Type} {f : α → Int} : ∀ {xs : List α}, intsD (xs.map fun x => .int (f x)) = some (xs.map f)
  | [] => rfl
  | x :: xs => by rw [List.map_cons, intsD, intsD_m]; rfl
theorem maxL_m {α : Type} {f : α → Int} {xs : List α} {K : Pv → Prop} (h : 0 < xs.length) : WL (oMaxL [.lst (xs.map fun x => .int (f x))]) K = K (.dat (.int (maxI (xs.map f)))) := by
  refine WL_of ?_
  have e : oMaxL [.lst (xs.map fun x => .int (f x))] = match intsD (xs.map fun x => .int (f x)) with
    | some ns => if 0 < ns.length then some (.dat (.int (maxI ns))) else none
    | none => none := rfl
  rw [e, intsD_m]
  show (if 0 < (xs.map f).length then _ else _) = _
  rw [if_pos (by rw [List.length_map]; exact h)]
theorem minL_m {α : Type} {f : α → Int} {xs : List α} {K : Pv → Prop} (h : 0 < xs.length) : WL (oMinL [.lst (xs.map fun x => .int (f x))]) K = K (.dat (.int (minI (xs.map f)))) := by
  refine WL_of ?_
  have e : oMinL [.lst (xs.map fun x => .int (f x))] = match intsD (xs.map fun x => .int (f x)) with
    | some ns => if 0 < ns.length then some (.dat (.int (minI ns))) else none
    | none => none := rfl
  rw [e, intsD_m]
  show (if 0 < (xs.map f).length then _ else _) = _
  rw [if_pos (by rw [List.length_map]; exact h)]
end G
namespace G
open PySem PySem.Spec PyProof.Rows L2
section
variable {Γ : Gam} {fx : Fx} {E : WX} {X : Cx} {pos : Pos}
/-! ### -n -/
/-! ### *e in a display -/
noncomputable def gStar (g : M Pd) (gr : M (List D)) : M (List D) := M.bind g fun p S => match drf S p with
  | some d => match seqD d with
    | some ds => M.bind gr (fun r => M.pure (ds ++ r)) S
    | none => .bad
  | none => .bad
/-! ### a method that only reads, of any expression -/
/-- o: what it gives of the object and the arguments -/
noncomputable abbrev RM := D → List D → Option Pv
noncomputable def gRm (kd : D → Bool) (o : RM) (gp : M Pd) (g : M (List D)) : M Pv := M.bind gp fun p S0 => match drf S0 p with
  | some d0 => if kd d0 = true then M.bind g (fun args S1 => match drf S1 p with
      | some d => M.lift (o d args) S1
      | none => .bad) S0 else .bad
  | none => .bad
noncomputable def isL : D → Bool
  | .lst _ => true
  | _ => false
noncomputable def isS : D → Bool
  | .str _ => true
  | _ => false
/-- xs.index(x) -/
noncomputable def rmIndex : RM := fun d args => match d with
  | .lst ds => (lmIndex ds args).map fun p => .dat p.2
  | _ => none
/-! ### their weakest preconditions -/
theorem V_gStar {g : M Pd} {gr : M (List D)} {S : Slots} {K : List D → Slots → Prop} : W (gStar g gr) S K = W g S fun p S1 => WL (drf S1 p) fun d => WL (seqD d) fun ds => W gr S1 fun r S2 => K (ds ++ r) S2 := by
  unfold gStar
  rw [W_bind]; congr 1; funext p S1
  unfold W
  cases h1 : drf S1 p with
  | none => simp only [h1]; rfl
  | some d =>
    simp only [h1]
    cases h2 : seqD d with
    | none => simp only [h2]; exact (show False = WL (seqD d) _ by rw [h2]; rfl)
    | some ds =>
      simp only [h2]
      show W (M.bind gr _) S1 K = WL (seqD d) _
      rw [W_bind, h2]; rfl
theorem V_gRm {kd : D → Bool} {o : RM} {gp : M Pd} {g : M (List D)} {S : Slots} {K : Pv → Slots → Prop} : W (gRm kd o gp g) S K = W gp S fun p S0 => WL (drf S0 p) fun d0 => WC (kd d0 = true) (W g S0 fun args S1 => WL (drf S1 p) fun d => WL (o d args) fun pv => K pv S1) := by
  unfold gRm
  rw [W_bind]; congr 1; funext p S0
  unfold W
  cases h1 : drf S0 p with
  | none => simp only [h1]; rfl
  | some d0 =>
    simp only [h1]
    show _ = WC (kd d0 = true) _
    unfold WC
    by_cases hk : kd d0 = true
    · rw [if_pos hk, eq_true hk, true_and]
      show W (M.bind g _) S0 K = W g S0 _
      rw [W_bind]; congr 1; funext args S1
      unfold W
      cases h2 : drf S1 p with
      | none => simp only [h2]; rfl
      | some d => simp only [h2]; exact W_lift
    · rw [if_neg hk]; exact (eq_false fun q => hk q.1).symm
theorem isL_l {ds : List D} {A : Prop} : WC (isL (.lst ds) = true) A = A := WC_ok rfl
theorem isS_s {x : Str} {A : Prop} : WC (isS (.str x) = true) A = A := WC_ok rfl
theorem rmIndex_l {ds args : List D} {K : Pv → Prop} : WL (rmIndex (.lst ds) args) K = LMK (lmIndex ds args) fun _ d => K (.dat d) := by
  show WL ((lmIndex ds args).map _) K = _
  unfold WL LMK
  cases lmIndex ds args <;> rfl
end
end G
namespace G
open PySem PySem.Spec PyProof.Rows L2
section
variable {Γ : Gam} {fx : Fx} {E : WX} {X : Cx} {pos : Pos}
/-! ### comprehensions with two loops -/
noncomputable def lcOut (vs : List Nat) (b : MT) (gt : M Bool) (gi1 : M (List D)) (vs1 : List Nat) (b1 : MT) (gt1 : M Bool) (ge : M D) : List D → List D → M (List D)
  | [], acc => M.pure acc
  | d :: r, acc => M.bind (M.bind (M.bind (wipeM vs) fun _ => b d) fun _ => gt) fun t => if t then M.bind gi1 fun ds1 => M.bind (lcLoop vs1 b1 gt1 ge ds1 acc) fun acc' => lcOut vs b gt gi1 vs1 b1 gt1 ge r acc' else lcOut vs b gt gi1 vs1 b1 gt1 ge r acc
noncomputable def gLc2 (vs : List Nat) (gi : M (List D)) (b : MT) (gt : M Bool) (gi1 : M (List D)) (vs1 : List Nat) (b1 : MT) (gt1 : M Bool) (ge : M D) : M Pv := M.bind gi fun ds S1 => match lcOut vs b gt gi1 vs1 b1 gt1 ge ds [] S1 with
  | .ok (acc, S2) => .ok (.fr (.lst acc), backS S1 (wipeS S2 vs) vs)
  | _ => .bad
noncomputable def tIx (Γ : Gam) (g : M (List D)) : TI := fun σ H Q => ∃ fx, tI Γ fx E0 g σ H Q
theorem PI.ex {tg iter : Expr} {g : M (List D)} (h : ∀ fx, GI Γ fx E0 X tg iter g) : PI X tg iter (tIx Γ g) := ⟨fun pins s σ H Q I ⟨fx, q⟩ => (h fx).run pins s σ H Q I q⟩
/-! ### what it comes to -/
noncomputable def LC2 (vs : List Nat) (b : MT) (gt : M Bool) (gi1 : M (List D)) (vs1 : List Nat) (b1 : MT) (gt1 : M Bool) (ge : M D) (ds : List D) (S : Slots) (k : List D → Slots → Prop) : Prop := W (lcOut vs b gt gi1 vs1 b1 gt1 ge ds []) S fun acc S2 => k acc (backS S (wipeS S2 vs) vs)
theorem V_gLc2 {vs vs1 : List Nat} {gi gi1 : M (List D)} {b b1 : MT} {gt gt1 : M Bool} {ge : M D} {S : Slots} {K : Pv → Slots → Prop} : W (gLc2 vs gi b gt gi1 vs1 b1 gt1 ge) S K = W gi S fun ds S1 => LC2 vs b gt gi1 vs1 b1 gt1 ge ds S1 fun acc S' => K (.fr (.lst acc)) S' := by
  unfold gLc2 LC2; rw [W_bind]; congr 1; funext ds S1
  unfold W
  cases e : lcOut vs b gt gi1 vs1 b1 gt1 ge ds [] S1 with
  | ok p => simp only [e]
  | exc x S' => simp only [e]
  | bad => simp only [e]
end
end G
namespace G
open PySem PySem.Spec PyProof.Rows L2
/-! ### dicts whose keys are numbers and texts -/
noncomputable def keyD : Key → D
  | .inl i => .int i
  | .inr x => .str x
noncomputable def keyOf : D → Option Key
  | .int i => some (.inl i)
  | .str x => some (.inr x)
  | _ => none
noncomputable def dictK (F : Hp) (a : Addr) (ks : List D) (vs : List V) : Prop := ∃ kvs : List (Key × V), F a = some (.dK kvs) ∧ kvs.map (fun p => keyD p.1) = ks ∧ kvs.map (·.2) = vs
noncomputable def lkD : List D → List D → Key → Option D
  | k' :: ks, d :: ds, k => if keyOf k' = some k then some d else lkD ks ds k
  | _, _, _ => none
section
variable {Γ : Gam} {fx : Fx} {E : WX} {X : Cx} {pos : Pos}
theorem Pk.dic (hd : Γ.dict = dictK) {F H : Hp} {ks ds : List D} {v : V} (e : Ext F H) (h : Pk Γ F H (.dic ks ds) v) : ∃ a kvs, v = .ref a ∧ H a = some (.dK kvs) ∧ kvs.map (fun p => keyD p.1) = ks ∧ Reps Γ F ds (kvs.map (·.2)) := by
  rcases h with h | ⟨o, a, e1, rfl, ho⟩
  · obtain ⟨a, vs, rfl, h1, r⟩ := h
    rw [hd] at h1
    obtain ⟨kvs, h2, h3, rfl⟩ := h1
    exact ⟨a, kvs, rfl, e _ _ h2, h3, r⟩
  · cases o with
    | lst es => cases e1
    | ins c fs es => cases e1
    | dic ks' es =>
      cases e1
      obtain ⟨u, vs, h1, h2, r⟩ := ho
      have h3 := h2 (upd (fun _ => none) a u) upd_same
      rw [hd] at h3
      obtain ⟨kvs, h4, h5, rfl⟩ := h3
      rw [upd_same] at h4
      cases h4
      exact ⟨a, kvs, rfl, h1.1, h5, r⟩
/-! d[k] -/
/-! {k: v for ..}, each key once -/
noncomputable def dcLoop (vs : List Nat) (b : MT) (gt : M Bool) (gk gv : M D) : List D → List D × List D → M (List D × List D)
  | [], acc => M.pure acc
  | d :: r, acc => M.bind (M.bind (M.bind (wipeM vs) fun _ => b d) fun _ => gt) fun t => if t then M.bind gk fun y => M.bind gv fun z => (match keyOf y with
      | some k => if lkD acc.1 acc.2 k = none ∧ acc.1.length < sizeLine then dcLoop vs b gt gk gv r (acc.1 ++ [keyD k], acc.2 ++ [z]) else M.bad
      | none => M.bad) else dcLoop vs b gt gk gv r acc
noncomputable def gDc (vs : List Nat) (gi : M (List D)) (b : MT) (gt : M Bool) (gk gv : M D) : M Pv := M.bind gi fun ds S1 => match dcLoop vs b gt gk gv ds ([], []) S1 with
  | .ok (acc, S2) => .ok (.fr (.dic acc.1 acc.2), backS S1 (wipeS S2 vs) vs)
  | _ => .bad
/-! ### what it comes to -/
noncomputable def DC (vs : List Nat) (b : MT) (gt : M Bool) (gk gv : M D) (ds : List D) (S : Slots) (k : List D → List D → Slots → Prop) : Prop := W (dcLoop vs b gt gk gv ds ([], [])) S fun acc S2 => k acc.1 acc.2 (backS S (wipeS S2 vs) vs)
theorem V_gDc {vs : List Nat} {gi : M (List D)} {b : MT} {gt : M Bool} {gk gv : M D} {S : Slots} {K : Pv → Slots → Prop} : W (gDc vs gi b gt gk gv) S K = W gi S fun ds S1 => DC vs b gt gk gv ds S1 fun ks vs' S' => K (.fr (.dic ks vs')) S' := by
  unfold gDc DC; rw [W_bind]; congr 1; funext ds S1
  unfold W
  cases e : dcLoop vs b gt gk gv ds ([], []) S1 with
  | ok p => simp only [e]
  | exc x S' => simp only [e]
  | bad => simp only [e]
end
end G
namespace G
open PySem PySem.Spec PyProof.Rows L2
/-! ### zip(x, y), x a list, y a tuple -/
section
variable {Γ : Gam} {fx : Fx} {E : WX} {X : Cx} {pos : Pos}
noncomputable def zipD : List D → List D → List D
  | x :: r, y :: q => .tup [x, y] :: zipD r q
  | _, _ => []
/-- a list zipped with a tuple -/
noncomputable def zipLT : D → D → Option (List D)
  | .lst xs, .tup ys => some (zipD xs ys)
  | _, _ => none
noncomputable def gZip (g g2 : M D) : M (List D) := M.bind g fun d => M.bind g2 fun d2 => M.lift (zipLT d d2)
theorem zipLT_lt {xs ys : List D} : zipLT (.lst xs) (.tup ys) = some (zipD xs ys) := id rfl
theorem W_gZip {S : Slots} {g g2 : M D} {K : List D → Slots → Prop} : W (gZip g g2) S K = W g S fun d S1 => W g2 S1 fun d2 S2 => WL (zipLT d d2) fun ds => K ds S2 := by
  unfold gZip; rw [W_bind]; congr 1; funext d S1; rw [W_bind]; congr 1; funext d2 S2; exact W_lift
end
end G
namespace G
open PySem PySem.Spec PyProof.Rows L2
/-! ### a, b = x, [..]: new objects keep their owner -/
inductive AV where
  | v (d : D)
  | o (o : Ov)
noncomputable def AVsOk (Γ : Gam) (S : Slots) (σ : L2.St) (H F : Hp) : Fx → List AV → List V → Prop
  | _, [], vs => vs = []
  | fx, .v d :: r, vs => ∃ v u, vs = v :: u ∧ Rep Γ F d v ∧ AVsOk Γ S σ H F fx r u
  | fx, .o o :: r, vs => ∃ a w u, vs = .ref a :: u ∧ H a = some w ∧ F a = none ∧ OwnAt Γ F H o a ∧ fx.T a = none ∧ fx.H a = none ∧ (∀ (i : Nat) (o' : Ov) (b : Bool), S[i]? = some (.own o' b) → σ[i]? ≠ some (some (.ref a))) ∧ AVsOk Γ S σ H F (fx.aside a w) r u
noncomputable def setAVs : List Nat → List AV → Slots → Slots
  | i :: is, .v d :: r, S => (setAVs is r S).set i (.val d)
  | i :: is, .o o :: r, S => (setAVs is r S).set i (.own o false)
  | _, _, S => S
section
variable {Γ : Gam} {fx : Fx} {E : WX} {X : Cx} {pos : Pos}
theorem Post.aside {α : Type} {σ : L2.St} {F : Hp} {r : R (α × Slots)} {k : α → Slots → Hp → Hp → Prop} {a : Addr} {w : HO} (h : Post Γ fx E σ F r k) (hT : fx.T a = none) : Post Γ (fx.aside a w) E σ F r k := by
  cases r with
  | ok x => exact fun H' F' e R => h H' F' e (R.unaside hT)
  | exc x S' => exact fun cls d H' F' e R => h cls d H' F' e (R.unaside hT)
  | bad => exact h
theorem PA.ex {ι : Type} {es : List Expr} {t : ι → TA} (h : ∀ i, PA X es (t i)) : PA X es fun σ H Q => ∃ i, t i σ H Q := ⟨fun pos pins s σ H Q I ⟨i, q⟩ => (h i).run pos pins s σ H Q I q⟩
noncomputable def oNil : M (List AV) := M.pure []
noncomputable def oV (ga : M D) (gr : M (List AV)) : M (List AV) := M.bind ga fun d => M.bind gr fun r => M.pure (AV.v d :: r)
noncomputable def oO (ga : M Pv) (gr : M (List AV)) : M (List AV) := M.bind ga fun pv => match pv with
  | .dat d => M.bind gr fun r => M.pure (AV.v d :: r)
  | .fr o => M.bind gr fun r => M.pure (AV.o o :: r)
  | .sl _ => M.bad
noncomputable def gParO (ix : List Nat) (g : M (List AV)) : M Fl := M.bind g fun avs S => if avs.length = ix.length then .ok (.nx, setAVs ix avs S) else .bad
theorem AVsOk.len {S : Slots} {σ : L2.St} {H F : Hp} : ∀ {avs : List AV} {vs : List V} {fx : Fx}, AVsOk Γ S σ H F fx avs vs → vs.length = avs.length
  | [], _, _, h => by cases h; rfl
  | .v d :: r, _, _, h => by obtain ⟨v, u, rfl, _, h2⟩ := h; rw [List.length_cons, List.length_cons, AVsOk.len h2]
  | .o o :: r, _, _, h => by obtain ⟨a, w, u, rfl, _, _, _, _, _, _, h2⟩ := h; rw [List.length_cons, List.length_cons, AVsOk.len h2]
variable {S : Slots}
noncomputable def WAs : List Nat → List AV → Slots → (Slots → Prop) → Prop := fun ix avs S k => avs.length = ix.length ∧ k (setAVs ix avs S)
theorem W_isOk {α : Type} {g : M α} {a : α} {S' : Slots} {K : α → Slots → Prop} (h : g S = .ok (a, S')) : W g S K = K a S' := by unfold W; rw [h]
theorem W_isBad {α : Type} {g : M α} {K : α → Slots → Prop} (h : g S = .bad) : W g S K = False := by unfold W; rw [h]
theorem V_gParO {ix : List Nat} {g : M (List AV)} {K : Fl → Slots → Prop} : W (gParO ix g) S K = W g S fun avs S1 => WAs ix avs S1 (K .nx) := by
  unfold gParO
  rw [W_bind]; congr 1; funext avs S1
  unfold WAs
  by_cases h : avs.length = ix.length
  · rw [W_isOk (if_pos h)]
    exact propext ⟨fun q => ⟨h, q⟩, fun q => q.2⟩
  · rw [W_isBad (if_neg h)]
    exact propext ⟨fun q => q.elim, fun q => h q.1⟩
theorem WAs_n {k : Slots → Prop} : WAs [] [] S k = k S := by simp [WAs, setAVs]
theorem WAs_v {i : Nat} {is : List Nat} {d : D} {r : List AV} {k : Slots → Prop} : WAs (i :: is) (.v d :: r) S k = WAs is r S fun S' => WP i (.val d) S' k := by simp [WAs, setAVs, WP]
theorem WAs_o {i : Nat} {is : List Nat} {o : Ov} {r : List AV} {k : Slots → Prop} : WAs (i :: is) (.o o :: r) S k = WAs is r S fun S' => WP i (.own o false) S' k := by simp [WAs, setAVs, WP]
theorem W_oNil {K : List AV → Slots → Prop} : W oNil S K = K [] S := id rfl
theorem W_oV {ga : M D} {gr : M (List AV)} {K : List AV → Slots → Prop} : W (oV ga gr) S K = W ga S fun d S1 => W gr S1 fun r S2 => K (.v d :: r) S2 := by
  unfold oV; rw [W_bind]; congr 1; funext d S1; rw [W_bind]; rfl
noncomputable def avK (gr : M (List AV)) (K : List AV → Slots → Prop) (S : Slots) : Pv → Prop
  | .dat d => W gr S fun r S2 => K (.v d :: r) S2
  | .fr o => W gr S fun r S2 => K (.o o :: r) S2
  | .sl _ => False
theorem W_oO {ga : M Pv} {gr : M (List AV)} {K : List AV → Slots → Prop} : W (oO ga gr) S K = W ga S fun pv S1 => avK gr K S1 pv := by
  unfold oO; rw [W_bind]; congr 1; funext pv S1
  cases pv with
  | dat d => show W (M.bind gr _) S1 K = _; rw [W_bind]; rfl
  | fr o => show W (M.bind gr _) S1 K = _; rw [W_bind]; rfl
  | sl i => rfl
theorem avK_d {gr : M (List AV)} {K : List AV → Slots → Prop} {d : D} : avK gr K S (.dat d) = W gr S fun r S2 => K (.v d :: r) S2 := id rfl
theorem avK_f {gr : M (List AV)} {K : List AV → Slots → Prop} {o : Ov} : avK gr K S (.fr o) = W gr S fun r S2 => K (.o o :: r) S2 := id rfl
end
end G
namespace G
open PySem PySem.Spec PyProof.Rows L2
/-! ### a, b, c = x, [..], y where some name is a cell: by a tuple of the machine's own -/
section
variable {Γ : Gam} {fx : Fx} {E : WX} {X : Cx} {pos : Pos}
theorem AVsOk.lay {S : Slots} {σ : L2.St} {H F : Hp} {p : Addr} {u : HO} (hp : H p = none) : ∀ {avs : List AV} {vs : List V} {fx : Fx}, AVsOk Γ S σ H F fx avs vs → AVsOk Γ S σ (upd H p u) F fx avs vs
  | [], _, _, h => h
  | .v d :: r, _, _, h => by obtain ⟨v, w, e, rd, h2⟩ := h; exact ⟨v, w, e, rd, AVsOk.lay hp h2⟩
  | .o o :: r, _, _, h => by
    obtain ⟨a, w, y, e, hw, hF, ho, hT, hh, hn, h2⟩ := h
    have ne : a ≠ p := ne_of_none hw hp
    exact ⟨a, w, y, e, by rw [upd_ne ne]; exact hw, hF, ho.mono (Ext.refl F) (fun z hz => by rw [upd_ne ne]; exact hz), hT, hh, hn, AVsOk.lay hp h2⟩
/-! ### a dict of the module with text keys and constants as values -/
noncomputable def lkS (kvs : List (Str × D)) (z : Str) : Option D := (kvs.find? (fun q => q.1 == z)).map (·.2)
noncomputable def CD (Γ : Gam) (w : World) (a : Addr) (kvs : List (Str × D)) : Prop := ∃ es n, KDict Γ.K w a es n ∧ ∀ z : Str, match lkS kvs z with
  | some d => ∃ u v, PySem.W.nsIn Γ.K a z = some (some u) ∧ RelV v u ∧ ∀ F, Rep Γ F d v
  | none => PySem.W.nsIn Γ.K a z = some none
noncomputable def gInC (neg : Bool) (kvs : List (Str × D)) (ga : M Pd) : M Pv := M.bind ga fun p S => match drf S p with
  | some (.str z) => .ok (.dat (.bl ((lkS kvs z).isSome != neg)), S)
  | _ => .bad
theorem CD.has {w : World} {a : Addr} {kvs : List (Str × D)} (c : CD Γ w a kvs) (z : Str) : ∃ r, PySem.W.nsIn Γ.K a z = some r ∧ r.isSome = (lkS kvs z).isSome := by
  obtain ⟨es, n, kd, h⟩ := c
  have h1 := h z
  cases e : lkS kvs z with
  | none => rw [e] at h1; exact ⟨none, h1, rfl⟩
  | some d => rw [e] at h1; obtain ⟨u, v, h2, _⟩ := h1; exact ⟨some u, h2, rfl⟩
noncomputable def gGetC (kvs : List (Str × D)) (ga : M Pd) : M D := M.bind ga fun p S => match drf S p with
  | some (.str z) => match lkS kvs z with
    | some d => .ok (d, S)
    | none => .bad
  | _ => .bad
/-! the walk -/
variable {S : Slots}
noncomputable def inCK (neg : Bool) (kvs : List (Str × D)) (K : Pv → Slots → Prop) (S : Slots) : D → Prop
  | .str z => K (.dat (.bl ((lkS kvs z).isSome != neg))) S
  | _ => False
theorem W_gInC {neg : Bool} {kvs : List (Str × D)} {ga : M Pd} {K : Pv → Slots → Prop} : W (gInC neg kvs ga) S K = W ga S fun p S1 => WL (drf S1 p) fun d => inCK neg kvs K S1 d := by
  unfold gInC; rw [W_bind]; congr 1; funext p S1
  unfold W
  cases h1 : drf S1 p with
  | none => simp only [h1]; rfl
  | some d => cases d <;> (simp only [h1]; rfl)
theorem inCK_str {neg : Bool} {kvs : List (Str × D)} {K : Pv → Slots → Prop} {z : Str} : inCK neg kvs K S (.str z) = K (.dat (.bl ((lkS kvs z).isSome != neg))) S := id rfl
noncomputable def getCK (kvs : List (Str × D)) (K : D → Slots → Prop) (S : Slots) : D → Prop
  | .str z => WL (lkS kvs z) fun d => K d S
  | _ => False
theorem W_gGetC {kvs : List (Str × D)} {ga : M Pd} {K : D → Slots → Prop} : W (gGetC kvs ga) S K = W ga S fun p S1 => WL (drf S1 p) fun d => getCK kvs K S1 d := by
  unfold gGetC; rw [W_bind]; congr 1; funext p S1
  unfold W
  cases h1 : drf S1 p with
  | none => simp only [h1]; rfl
  | some d =>
    cases d with
    | str z =>
      cases h2 : lkS kvs z with
      | none => simp only [h1, h2]; exact (show False = WL (lkS kvs z) _ by rw [h2]; rfl)
      | some d => simp only [h1, h2]; exact (show _ = WL (lkS kvs z) _ by rw [h2]; rfl)
    | _ => simp only [h1]; rfl
theorem getCK_str {kvs : List (Str × D)} {K : D → Slots → Prop} {z : Str} : getCK kvs K S (.str z) = WL (lkS kvs z) fun d => K d S := id rfl
end
end G
namespace G
open PySem PySem.Spec PyProof.Rows L2
open He (Fa eqO eqO_ok ba ga ma frG frG_in)
/-! ### the head's facts with tables whose keys are texts -/
noncomputable abbrev Tb : Type := Str × List Str
noncomputable abbrev AlH : Type := (He.AlD × Bool) × List (Option (List (Option (Str × Int))))
structure SaysH (fa : List Fa) (fn : List He5.DefA) (ex : PySem.W.Frag → Bool) (ts : List Tb) (w : World) (K : PySem.W.Frag) : Prop where
  a : He5.SaysA fa fn K
  x : ex K = true
  t : ts.map (fun t => He.dicW K (ga K t.1)) = ts.map fun t => some (He.keysIn w.params t.2)
theorem SaysH.tab {fa : List Fa} {fn : List He5.DefA} {ex : PySem.W.Frag → Bool} {ts : List Tb} {w : World} {K : PySem.W.Frag} (c : SaysH fa fn ex ts w K) (i : Nat) {t : Tb} (h : ts[i]? = some t := by rfl) : He.dicW K (ga K t.1) = some (He.keysIn w.params t.2) := by
  have e2 : (ts.map fun t => He.dicW K (ga K t.1))[i]? = (ts.map fun t => some (He.keysIn w.params t.2))[i]? := by rw [c.t]
  rw [List.getElem?_map, List.getElem?_map, h] at e2
  exact Option.some.inj e2
/-! constants -/
end G
namespace G
open PySem
/-! ### branches that come together again -/
/-- an index that is not told as a Nat -/
noncomputable def NotNat (_ : Int) : Prop := True
theorem notNat {j : Int} : NotNat j := trivial
theorem ixl_mapI {α : Type} [Inhabited α] {f : α → D} {xs : List α} {j : Int} {K : Pv → Prop} (h0 : NotNat j) (h : 0 ≤ j) (h2 : j < xs.length) : WL (oIx (.lst (xs.map f)) (.int j)) K = K (.dat (f (xs.getD j.toNat default))) := ixl_map h h2
theorem ixt_mapI {α : Type} [Inhabited α] {f : α → D} {xs : List α} {j : Int} {K : Pv → Prop} (h0 : NotNat j) (h : 0 ≤ j) (h2 : j < xs.length) : WL (oIx (.tup (xs.map f)) (.int j)) K = K (.dat (f (xs.getD j.toNat default))) := ixt_map h h2
theorem ixl_mapN {α : Type} [Inhabited α] {f : α → D} {l : List α} {j : Nat} {K : Pv → Prop} (h : j < l.length) : WL (oIx (.lst (l.map f)) (.int (j : Int))) K = K (.dat (f (l.getD j default))) := by
  rw [ixl_map (by omega) (by omega), Int.toNat_natCast]
theorem ixt_mapN {α : Type} [Inhabited α] {f : α → D} {l : List α} {j : Nat} {K : Pv → Prop} (h : j < l.length) : WL (oIx (.tup (l.map f)) (.int (j : Int))) K = K (.dat (f (l.getD j default))) := by
  rw [ixt_map (by omega) (by omega), Int.toNat_natCast]
theorem ixl_map0 {α : Type} [Inhabited α] {f : α → D} {l : List α} {K : Pv → Prop} (h : 0 < l.length) : WL (oIx (.lst (l.map f)) (.int 0)) K = K (.dat (f (l.getD 0 default))) := ixl_mapN (j := 0) h
theorem ixt_map0 {α : Type} [Inhabited α] {f : α → D} {l : List α} {K : Pv → Prop} (h : 0 < l.length) : WL (oIx (.tup (l.map f)) (.int 0)) K = K (.dat (f (l.getD 0 default))) := ixt_mapN (j := 0) h
theorem ixl_map1 {α : Type} [Inhabited α] {f : α → D} {l : List α} {K : Pv → Prop} (h : 1 < l.length) : WL (oIx (.lst (l.map f)) (.int 1)) K = K (.dat (f (l.getD 1 default))) := ixl_mapN (j := 1) h
theorem ixt_map1 {α : Type} [Inhabited α] {f : α → D} {l : List α} {K : Pv → Prop} (h : 1 < l.length) : WL (oIx (.tup (l.map f)) (.int 1)) K = K (.dat (f (l.getD 1 default))) := ixt_mapN (j := 1) h
theorem ixl_map2 {α : Type} [Inhabited α] {f : α → D} {l : List α} {K : Pv → Prop} (h : 2 < l.length) : WL (oIx (.lst (l.map f)) (.int 2)) K = K (.dat (f (l.getD 2 default))) := ixl_mapN (j := 2) h
theorem ixt_map2 {α : Type} [Inhabited α] {f : α → D} {l : List α} {K : Pv → Prop} (h : 2 < l.length) : WL (oIx (.tup (l.map f)) (.int 2)) K = K (.dat (f (l.getD 2 default))) := ixt_mapN (j := 2) h
theorem ixl_map3 {α : Type} [Inhabited α] {f : α → D} {l : List α} {K : Pv → Prop} (h : 3 < l.length) : WL (oIx (.lst (l.map f)) (.int 3)) K = K (.dat (f (l.getD 3 default))) := ixl_mapN (j := 3) h
theorem ixt_map3 {α : Type} [Inhabited α] {f : α → D} {l : List α} {K : Pv → Prop} (h : 3 < l.length) : WL (oIx (.tup (l.map f)) (.int 3)) K = K (.dat (f (l.getD 3 default))) := ixt_mapN (j := 3) h
theorem ixl_map4 {α : Type} [Inhabited α] {f : α → D} {l : List α} {K : Pv → Prop} (h : 4 < l.length) : WL (oIx (.lst (l.map f)) (.int 4)) K = K (.dat (f (l.getD 4 default))) := ixl_mapN (j := 4) h
theorem ixt_map4 {α : Type} [Inhabited α] {f : α → D} {l : List α} {K : Pv → Prop} (h : 4 < l.length) : WL (oIx (.tup (l.map f)) (.int 4)) K = K (.dat (f (l.getD 4 default))) := ixt_mapN (j := 4) h
end G
namespace G
open PySem PySem.Spec PyProof.Rows L2
end G
namespace G
open PySem PySem.Spec PyProof.Rows L2
section
variable {Γ : Gam} {fx : Fx} {E : WX} {X : Cx} {pos : Pos}
/-! ### lists of lists that one name alone holds: rows = [list(..) ..]; for ..: rows[i][j] = .. -/
noncomputable def Fx.setT (fx : Fx) (T : Hp) : Fx := { fx with T := T }
theorem Rel.reT {S : Slots} {σ : L2.St} {H F T : Hp} (R : Rel Γ fx S σ H F) (ht : ∀ a o, T a = some o → H a = some o ∧ F a = none)
    (ho : ∀ (i : Nat) (o : Ov) (b : Bool) (a : Addr), S[i]? = some (.own o b) → σ[i]? = some (some (.ref a)) → T a = none) (hx : ∀ a o, T a = some o → ∀ ps, o ≠ .tbl ps) : Rel Γ (fx.setT T) S σ H F where
  bg := R.bg
  cb := R.cb
  tnx := hx
  fnx := R.fnx
  len := R.len
  val := R.val
  own := fun i o b e => by
    obtain ⟨c, e1, e2, e3, e4, e5⟩ := R.own i o b e
    exact ⟨c, e1, e2, e3, ho i o b c e e1, e5⟩
  inj := R.inj
  sub := R.sub
  sub0 := R.sub0
  new := R.new
  frm := R.frm
  wth := R.wth
  tmp := ht
theorem Rel.dropT {S : Slots} {σ : L2.St} {H F T : Hp} (R : Rel Γ (fx.setT T) S σ H F) (h : ∀ a o, fx.T a = some o → T a = some o) : Rel Γ fx S σ H F :=
  Rel.reT (fx := fx.setT T) (T := fx.T) R (fun a o e => R.tmp a o (h a o e)) (fun i o b a e e1 => by
    obtain ⟨c, e2, _, _, e4, _⟩ := R.own i o b e
    rw [e1] at e2; cases e2
    have e4 : T a = none := e4
    cases q : fx.T a with
    | none => rfl
    | some u => rw [h a u q] at e4; cases e4) fun a o e => R.tnx a o (h a o e)
/-- the rows stand apart: the list at Da, its rows at cs -/
structure RowsAt (Γ : Gam) (fx : Fx) (T F : Hp) (Da : Addr) (cs : List Addr) (dss : List (List D)) : Prop where
  da : T Da = some (.lst (cs.map V.ref))
  len : cs.length = dss.length
  row : ∀ (k : Nat) (c : Addr) (ds : List D), cs[k]? = some c → dss[k]? = some ds → ∃ vs, T c = some (.lst vs) ∧ Reps Γ F ds vs
  nd : cs.Nodup
  dn : Da ∉ cs
  out : ∀ c, (c = Da ∨ c ∈ cs) → fx.T c = none ∧ fx.H c = none
  und : ∀ b o, T b = some o → fx.T b = some o ∨ b = Da ∨ b ∈ cs
  und0 : ∀ b o, fx.T b = some o → T b = some o
theorem RowsAt.mono {T F F' : Hp} {Da : Addr} {cs : List Addr} {dss : List (List D)} (A : RowsAt Γ fx T F Da cs dss) (e : Ext F F') : RowsAt Γ fx T F' Da cs dss :=
  { A with row := fun k c ds h1 h2 => let ⟨vs, h3, h4⟩ := A.row k c ds h1 h2; ⟨vs, h3, h4.mono e⟩ }
theorem RowsAt.nil {F : Hp} {Da : Addr} (h1 : fx.T Da = none) (h2 : fx.H Da = none) : RowsAt Γ fx (upd fx.T Da (.lst [])) F Da [] [] where
  da := upd_same
  len := rfl
  row := fun k c ds e => by simp at e
  nd := List.nodup_nil
  dn := by simp
  out := fun c h => by
    rcases h with rfl | h
    · exact ⟨h1, h2⟩
    · cases h
  und := fun b o e => by
    by_cases q : b = Da
    · exact .inr (.inl q)
    · rw [upd_ne q] at e; exact .inl e
  und0 := fun b o e => by rw [upd_ne (ne_of_none e h1)]; exact e
end
end G
namespace G
open PySem PySem.Spec PyProof.Rows L2
end G
namespace G
open PySem PySem.Spec PyProof.Rows L2
/-! ### functions that are handed on: what they lean on is tracked while another def runs -/
noncomputable def ObE (a : Addr) (o : Obj) : HO := .ext fun h => h.get? a = some o
theorem obE_get {P : Program} {w : World} {H : Hp} {h : Heap} {a : Addr} {o : Obj} (x : ObjOk P w H h a (ObE a o)) : h.get? a = some o := x.1
noncomputable abbrev Trk := List (Addr × Obj)
noncomputable def addTr (H : Hp) (tr : Trk) : Hp := fun b => match tr.lookup b with
  | some o => some (ObE b o)
  | none => H b
noncomputable def dropTr (H : Hp) (tr : Trk) : Hp := fun b => match tr.lookup b with
  | some _ => none
  | none => H b
theorem addTr_out {H : Hp} {tr : Trk} {b : Addr} (h : tr.lookup b = none) : addTr H tr b = H b := by unfold addTr; rw [h]
theorem dropTr_in {H : Hp} {tr : Trk} {b : Addr} {o : Obj} (h : tr.lookup b = some o) : dropTr H tr b = none := by unfold dropTr; rw [h]
theorem dropTr_out {H : Hp} {tr : Trk} {b : Addr} (h : tr.lookup b = none) : dropTr H tr b = H b := by unfold dropTr; rw [h]
theorem lookup_mem' {α : Type} : ∀ {tr : List (Addr × α)} {b : Addr} {o : α}, tr.lookup b = some o → (b, o) ∈ tr
  | (k, v) :: r, b, o, h => by
    rw [List.lookup_cons] at h
    cases q : b == k with
    | true =>
      rw [q] at h; cases h
      rw [beq_iff_eq.mp q]; exact List.mem_cons_self
    | false => rw [q] at h; exact List.mem_cons_of_mem _ (lookup_mem' h)
section
variable {P : Program} {w : World} {K : PySem.W.Frag} {mg : Str → Option Value} {base : Heap} {A : Around} {outer : List PySem.Env} {s : Shared} {H : Hp} {tr : Trk}
/-- what is to be tracked: it stands there, untracked, of ours -/
structure TrOk (base : Heap) (outer : List PySem.Env) (h : Heap) (H : Hp) (tr : Trk) : Prop where
  at_ : ∀ p ∈ tr, h.get? p.1 = some p.2
  un : ∀ p ∈ tr, H p.1 = none
  nb : ∀ p ∈ tr, base.get? p.1 = none
  nf : ∀ p ∈ tr, p.1 ∉ frs outer
theorem HOk.dropTr {h : Heap} (ok : HOk P w H h) (hi : ∀ p ∈ tr, ∃ φ, H p.1 = some (.ext φ)) : HOk P w (dropTr H tr) h := fun b u e => by
  cases q : tr.lookup b with
  | some o => rw [dropTr_in q] at e; cases e
  | none =>
    rw [dropTr_out q] at e
    have keep : ∀ c x, H c = some x → (∀ φ, x ≠ .ext φ) → G.dropTr H tr c = some x := fun c x hc hn => by
      cases q2 : tr.lookup c with
      | some o =>
        obtain ⟨φ, h1⟩ := hi _ (lookup_mem' q2)
        have h1 : H c = some (.ext φ) := h1
        rw [hc] at h1; cases h1
        exact absurd rfl (hn φ)
      | none => rw [dropTr_out q2]; exact hc
    exact (ok b u e).stay (fun _ _ _ z => z) (fun c z => keep c _ z fun _ y => HO.noConfusion y) fun c xs z => keep c _ z fun _ y => HO.noConfusion y
theorem Env0.dropTr (e0 : Env0 P w K mg base A outer s H) (hi : ∀ p ∈ tr, ∃ φ, H p.1 = some (.ext φ)) : Env0 P w K mg base A outer s (dropTr H tr) where
  frames := e0.frames
  mod := e0.mod
  bs := fun b o e => by
    obtain ⟨h1, h2⟩ := e0.bs b o e
    refine ⟨h1, ?_⟩
    cases q : tr.lookup b with
    | some o' => exact dropTr_in q
    | none => rw [dropTr_out q]; exact h2
  bsz := e0.bsz
  funs := e0.funs
  frf := fun b hb => by
    cases q : tr.lookup b with
    | some o' => exact dropTr_in q
    | none => rw [dropTr_out q]; exact e0.frf b hb
  hok := HOk.dropTr e0.hok hi
  bare := e0.bare
/-- behind a call within which they were tracked -/
noncomputable def QDrop (tr : Trk) (Q : VK) : VK := fun v H' => (∀ p ∈ tr, H' p.1 = some (ObE p.1 p.2)) ∧ Q v (dropTr H' tr)
noncomputable def EDrop (tr : Trk) (E : XK) : XK := fun cls d H' => (∀ p ∈ tr, H' p.1 = some (ObE p.1 p.2)) ∧ E cls d (dropTr H' tr)
theorem CR.drop {Q : VK} {E : XK} {r : Result} {s' : Shared} (ok : HOk P w H s.heap) (t : TrOk base outer s.heap H tr) (h : CR (CXg P w) outer P w (addTr H tr) s (QDrop tr Q) (EDrop tr E) r s') : CR (CXg P w) outer P w H s Q E r s' := by
  have lk : ∀ {b o}, tr.lookup b = some o → s.heap.get? b = some o ∧ H b = none ∧ b ∉ frs outer := fun {b o} q => ⟨t.at_ _ (lookup_mem' q), t.un _ (lookup_mem' q), t.nf _ (lookup_mem' q)⟩
  have keep : ∀ c x, H c = some x → addTr H tr c = some x ∧ tr.lookup c = none := fun c x hc => by
    cases q2 : tr.lookup c with
    | some o => have := (lk q2).2.1; rw [hc] at this; cases this
    | none => exact ⟨by rw [addTr_out q2]; exact hc, rfl⟩
  cases r with
  | ok fl =>
    cases fl with
    | ret u =>
      obtain ⟨v, H', os, bare, un, hok, rv, hi, q⟩ := h
      refine ⟨v, dropTr H' tr, os, bare, ⟨fun b o e n hb hx => ?_, fun b o e n hb hx => ?_, fun b o e n hx => ?_, fun b o e hx => un.there b o e hx, fun b xs e => ?_, fun b o x e => ?_, fun b ps e => ?_⟩, HOk.dropTr hok fun p hp => ⟨_, hi p hp⟩, rv, q⟩
      · cases q2 : tr.lookup b with
        | some o' =>
          have h1 := (lk q2).1
          rw [e] at h1; cases h1
          exact obE_get (hok b _ (hi _ (lookup_mem' q2)))
        | none => exact un.keep b o e (by rw [addTr_out q2]; exact n) hb hx
      · cases q2 : tr.lookup b with
        | some o' => exact absurd hb (lk q2).2.2
        | none => exact un.slot b o e (by rw [addTr_out q2]; exact n) hb hx
      · cases q2 : tr.lookup b with
        | some o' => exact dropTr_in q2
        | none => rw [dropTr_out q2]; exact un.free b o e (by rw [addTr_out q2]; exact n) hx
      · obtain ⟨h1, h2⟩ := keep _ _ e
        rw [dropTr_out h2]; exact un.tups b xs h1
      · obtain ⟨h1, h2⟩ := keep _ _ e
        rw [dropTr_out h2]; exact un.frzs b o x h1
      · obtain ⟨h1, h2⟩ := keep _ _ e
        rw [dropTr_out h2]; exact un.tbls b ps h1
    | next => exact h
    | brk => exact h
    | cont => exact h
  | error e =>
    obtain ⟨a, B, H', cls, d, he, fl, hok, ub, ha, os, bare, hi, q⟩ := h
    refine ⟨a, B, dropTr H' tr, cls, d, he, L2H.flyingZ_imp (fun o z => z.imp fun x n => by
      cases q2 : tr.lookup x with
      | some o' => exact dropTr_in q2
      | none => rw [dropTr_out q2]; exact n) fl, HOk.dropTr hok fun p hp => ⟨_, hi p hp⟩, ⟨fun b o e n hb => ?_, ub.slot, fun b o e n => ?_, ub.there, fun b xs e => ?_, fun b o x e => ?_, fun b ps e => ?_⟩, ?_, os, bare, q⟩
    · cases q2 : tr.lookup b with
      | some o' =>
        have h1 := (lk q2).1
        rw [e] at h1; cases h1
        exact obE_get (hok b _ (hi _ (lookup_mem' q2)))
      | none => exact ub.keep b o e (by rw [addTr_out q2]; exact n) hb
    · cases q2 : tr.lookup b with
      | some o' => exact dropTr_in q2
      | none => rw [dropTr_out q2]; exact ub.free b o e (by rw [addTr_out q2]; exact n)
    · obtain ⟨h1, h2⟩ := keep _ _ e
      rw [dropTr_out h2]; exact ub.tups b xs h1
    · obtain ⟨h1, h2⟩ := keep _ _ e
      rw [dropTr_out h2]; exact ub.frzs b o x h1
    · obtain ⟨h1, h2⟩ := keep _ _ e
      rw [dropTr_out h2]; exact ub.tbls b ps h1
    · cases q2 : tr.lookup a with
      | some o' => exact dropTr_in q2
      | none => rw [dropTr_out q2]; exact ha
end
end G
namespace G
open PySem PySem.Spec PyProof.Rows L2
/-! ### a lambda's body -/
/-- a function that is handed on, by its mirror: the captured data stand behind the arguments -/
noncomputable def cloF (n m : Nat) (mb : M D) (cd : List D) : CF0 := fun ds => if ds.length = n then match mb (ds.map .val ++ (cd.map .val ++ List.replicate m .no)) with
  | .ok (d, _) => some d
  | _ => none else none
section
variable {P : Program} {w : World} {K : PySem.W.Frag} {mg : Str → Option Value} {base : Heap}
/-- what a handed-on function promises, wherever what it leans on stands -/
noncomputable def CbOk (P : Program) (w : World) (K : PySem.W.Frag) (mg : Str → Option Value) (base : Heap) (Γ : Gam) (lev : Nat) (C G : Hp) (a : Addr) (f : CF0) : Prop :=
  (∀ (H : Hp) (h : Heap), HOk P w H h → Ext C H → PySem.W.FnAt a h) ∧
  ∀ (A : Around) (outer : List PySem.Env) (s : Shared) (H : Hp) (us : List Value) (vs : List V) (Q : VK) (ds : List D) (F : Hp) (d : D), Room lev A → Env0 P w K mg base A outer s H → Vals vs us → Ext C H → LamX.Tabs Γ.T H → Ext G F → Ext F H → (∀ b o, F b = some o → NX o) → Reps Γ F ds vs → f ds = some d →
    (∀ v H' F', After Γ [] [] H F [] H' F' → Rep Γ F' d v → Q v H') → codeAny (model P w) A (.call (.ref a) ⟨us, []⟩) (CR (CXg P w) outer P w H s Q E0k) s
theorem CbOk.mono {Γ : Gam} {lev : Nat} {C C' G G' : Hp} {a : Addr} {f : CF0} (e : Ext C C') (e2 : Ext G G') (h : CbOk P w K mg base Γ lev C G a f) : CbOk P w K mg base Γ lev C' G' a f :=
  ⟨fun H h' ok ex => h.1 H h' ok (e.trans ex), fun A outer s H us vs Q ds F d hr e0 r ex ht eg => h.2 A outer s H us vs Q ds F d hr e0 r (e.trans ex) ht (e2.trans eg)⟩
end
section
variable {Γ : Gam} {fx : Fx} {E : WX} {X : Cx} {pos : Pos}
/-- a call of a parameter that is a function -/
noncomputable def gCb (i : Nat) (g : M (List D)) : M D := fun S => match S[i]? with
  | some (.cb (.fn f)) => M.bind g (fun ds => M.lift (f ds)) S
  | _ => .bad
end
end G
namespace G
open PySem PySem.Spec PyProof.Rows L2
open LamX (CodeO)
/-! ### a lambda that was made is a function to be handed on -/
end G
namespace G
open PySem PySem.Spec PyProof.Rows L2
open LamX (CodeO TabB Tabs)
/-! ### lambda ..: the function is made -/
/-- all but tables stays, tables grow -/
structure Grow (H H1 : Hp) : Prop where
  st : ∀ b o, H b = some o → (∀ ps, o ≠ .tbl ps) → H1 b = some o
  tb : ∀ b ps, H b = some (.tbl ps) → ∃ more, H1 b = some (.tbl (ps ++ more))
theorem Grow.ext {H H1 : Hp} (e : Ext H H1) : Grow H H1 := ⟨fun b o h _ => e b o h, fun b ps h => ⟨#[], by rw [e b _ h]; simp⟩⟩
end G
namespace G
open PySem PySem.Spec PyProof.Rows L2
open LamX (CodeO TabB Tabs)
/-! ### calls that hand a lambda on -/
section
variable {X : Cx} {Γ : Gam} {fx : Fx} {E : WX} {pos : Pos}
noncomputable def callL (fn : Fn) (p : List AK) (f : CF0) (r : List AK) : M Pv := fun S => match callK fn [] (p ++ .s S.length :: r) (S ++ [.cb (.fn f)]) with
  | .ok (pv, S') => .ok (pv, S'.take S.length)
  | .exc x S' => .exc x (S'.take S.length)
  | .bad => .bad
/-! argument lists with one lambda -/
noncomputable abbrev L1 : Type := List AK × CF0 × List AK
noncomputable def lV (ga : M D) (gr : M L1) : M L1 := M.bind ga fun a => M.bind gr fun t => M.pure (AK.v a :: t.1, t.2)
noncomputable def lS (i : Nat) (gr : M L1) : M L1 := fun S => (match S[i]? with
  | some (.own _ _) => M.bind gr fun t => M.pure (AK.s i :: t.1, t.2)
  | some (.val _) => M.bind gr fun t => M.pure (AK.s i :: t.1, t.2)
  | some (.cb _) => M.bind gr fun t => M.pure (AK.s i :: t.1, t.2)
  | _ => M.bad) S
noncomputable def capsOf (S : Slots) : List Nat → Option (List D)
  | [] => some []
  | i :: r => match S[i]?, capsOf S r with
    | some (.val d), some ds => some (d :: ds)
    | _, _ => none
/-- n arguments, m names of its own, mb its mirror; what stands in the slots ix is captured -/
noncomputable def lC (ix : List Nat) (n m : Nat) (mb : M D) (gr : M (List AK)) : M L1 := fun S => match capsOf S ix with
  | some cd => M.bind gr (fun r => M.pure ([], cloF n m mb cd, r)) S
  | none => .bad
theorem Post.setT {α : Type} {σ : L2.St} {F T : Hp} {r : R (α × Slots)} {k : α → Slots → Hp → Hp → Prop} (h : Post Γ fx E σ F r k) (ht : ∀ a o, fx.T a = some o → T a = some o) : Post Γ (fx.setT T) E σ F r k := by
  cases r with
  | ok x => exact fun H' F' e R => h H' F' e (R.dropT ht)
  | exc x S' => exact fun cls d H' F' e R => h cls d H' F' e (R.dropT ht)
  | bad => exact h
/-- f(.., lambda .., ..) -/
noncomputable def gCallL (fn : Fn) (n : Nat) (gl : M L1) : M Pv := M.bind gl fun t => if t.1.length + 1 + t.2.2.length = n then callL fn t.1 t.2.1 t.2.2 else M.bad
/-- o.m(.., lambda .., ..) -/
noncomputable def gMethL (c : Nat) (m : Str) (fn : Fn) (n : Nat) (gp : M Pd) (gl : M L1) : M Pv := M.bind gp fun p S => match drf S p with
  | some d => if isIns c m d then M.bind gl (fun t => if t.1.length + 1 + t.2.2.length = n then callL fn (akOf p :: t.1) t.2.1 t.2.2 else M.bad) S else .bad
  | none => .bad
end
end G
namespace G
open PySem PySem.Spec PyProof.Rows L2
open He (Fa eqO eqO_ok ba ga ma frG frG_in)
open LamX (CodeO TabB Tabs TabS)
/-! ### the head's facts with empty tables of code objects -/
noncomputable def codeA (K : PySem.W.Frag) (f : Addr) : Addr := match codeV K f with
  | .ref c => c
  | _ => 0
noncomputable def tabA (K : PySem.W.Frag) (f : Addr) : Addr := He.tabOf K (codeA K f)
noncomputable abbrev TF : Type := PySem.W.Frag → List Addr
noncomputable def tfB (g : Addr → Option Obj) (K : PySem.W.Frag) (l : List Addr) : Bool := l.all fun f => (PySem.W.codeHdIn K (codeA K f) (tabA K f) && (match g (tabA K f) with
  | some o => He.emptyTab o
  | none => false)) && (match codeV K f with
  | .ref _ => true
  | _ => false)
noncomputable def nodupA (l : List Addr) : Bool := match l with
  | [] => true
  | a :: r => !r.contains a && nodupA r
noncomputable abbrev AlL : Type := AlH × Bool
noncomputable def obsL (n : Nat) (fa : List Fa) (fn : List He5.DefA) (ex : PySem.W.Frag → Bool) (ts : List Tb) (tf : TF) (g : Addr → Option Obj) : AlL :=
  let K := He.frT g (He5.asA g n)
  (((He5.obsA fa fn K, ex K), ts.map fun t => He.dicW K (ga K t.1)), tfB g K (tf K) && nodupA ((tf K).map (tabA K)))
structure SaysL (fa : List Fa) (fn : List He5.DefA) (ex : PySem.W.Frag → Bool) (ts : List Tb) (tf : TF) (w : World) (h : Heap) (K : PySem.W.Frag) : Prop where
  s : SaysH fa fn ex ts w K
  hd : ∀ f ∈ tf K, PySem.W.codeHdIn K (codeA K f) (tabA K f) = true
  out : ∀ f ∈ tf K, K.lookup (tabA K f) = none
  empty : ∀ f ∈ tf K, h.get? (tabA K f) = some { cls := .none, data := .fields #[] }
  cd : ∀ f ∈ tf K, codeV K f = .ref (codeA K f)
  nd : ((tf K).map (tabA K)).Nodup
theorem nodupA_of : ∀ {l : List Addr}, nodupA l = true → l.Nodup
  | [], _ => List.nodup_nil
  | i :: r, h => by
    unfold nodupA at h
    rw [Bool.and_eq_true] at h
    refine List.nodup_cons.mpr ⟨fun hm => ?_, nodupA_of h.2⟩
    have := h.1
    rw [List.contains_iff_mem.mpr hm] at this
    cases this
theorem saysL_of {n : Nat} {fa : List Fa} {fn : List He5.DefA} {ex : PySem.W.Frag → Bool} {ts : List Tb} {tf : TF} {w : World} {h : Heap}
    (e : obsL n fa fn ex ts tf h.get? = (((He5.valA fn, true), ts.map fun t => some (He.keysIn w.params t.2)), true)) : SaysL fa fn ex ts tf w h (He.frT h.get? (He5.asA h.get? n)) := by
  have e1 := congrArg (fun z : AlL => z.1.1.1) e
  have e2 := congrArg (fun z : AlL => z.1.1.2) e
  have e3 := congrArg (fun z : AlL => z.1.2) e
  have e4 := congrArg (fun z : AlL => z.2) e
  generalize hK : He.frT h.get? (He5.asA h.get? n) = K
  have e1 : He5.obsA fa fn K = He5.valA fn := by rw [← hK]; exact e1
  have e2 : ex K = true := by rw [← hK]; exact e2
  have e3 : (ts.map fun t => He.dicW K (ga K t.1)) = ts.map fun t => some (He.keysIn w.params t.2) := by rw [← hK]; exact e3
  have e4 : (tfB h.get? K (tf K) && nodupA ((tf K).map (tabA K))) = true := by rw [← hK]; exact e4
  obtain ⟨h1, h2⟩ := ba e4
  have key : ∀ f ∈ tf K, PySem.W.codeHdIn K (codeA K f) (tabA K f) = true ∧ (∃ o, h.get? (tabA K f) = some o ∧ He.emptyTab o = true) ∧ codeV K f = .ref (codeA K f) := fun f hf => by
    obtain ⟨h3, h5⟩ := ba (List.all_eq_true.mp h1 f hf)
    obtain ⟨h3, h4⟩ := ba h3
    refine ⟨h3, ?_, ?_⟩
    · cases q : h.get? (tabA K f) with
      | none => rw [q] at h4; cases h4
      | some o => rw [q] at h4; exact ⟨o, rfl, h4⟩
    · unfold codeA
      cases q : codeV K f with
      | ref c => rfl
      | _ => rw [q] at h5; cases h5
  exact ⟨⟨e1, e2, e3⟩, fun f hf => (key f hf).1, fun f hf => by
    obtain ⟨_, ⟨o, q, z⟩, _⟩ := key f hf
    rw [← hK] at q ⊢
    exact He.frT_none q z, fun f hf => by
    obtain ⟨_, ⟨o, q, z⟩, _⟩ := key f hf
    rw [q, He.emptyTab_eq z], fun f hf => (key f hf).2.2, nodupA_of h2⟩
noncomputable def hookL (n : Nat) (fa : List Fa) (fn : List He5.DefA) (ex : PySem.W.Frag → Bool) (ts : List Tb) (tf : TF) : PySem.W.Hook where
  α := AlL
  obs := fun s => obsL n fa fn ex ts tf s.heap.get?
  val := fun w => (((He5.valA fn, true), ts.map fun t => some (He.keysIn w.params t.2)), true)
  says := fun w h => ∃ K : PySem.W.Frag, K.In h ∧ SaysL fa fn ex ts tf w h K
  of := fun _ _ e => ⟨_, He.frT_in, saysL_of e⟩
  keeps := fun _ _ _ ⟨K, hK, c⟩ k => ⟨K, PySem.W.Frag.In.keeps hK k, ⟨c.s, c.hd, c.out, fun f hf => k _ _ (c.empty f hf), c.cd, c.nd⟩⟩
theorem obsL_eq {n : Nat} {fa : List Fa} {fn : List He5.DefA} {ex : PySem.W.Frag → Bool} {ts : List Tb} {tf : TF} {g : Addr → Option Obj} {s : Shared} (h : ∀ a, g a = s.heap.get? a) : obsL n fa fn ex ts tf g = (hookL n fa fn ex ts tf).obs s := by
  have e : g = s.heap.get? := funext h
  rw [e] <;> rfl
/-- the end of a row with tables -/
theorem walk_L {l : PySem.W.OpenLaw} {n k : Nat} {q : Program} {loose : List Str} {XP : (Str → Option Value) → Heap → Prop} {YP : World → Heap → Prop} {d : DefRec} {x : Str}
    (hn : l.most = some n) (hn2 : n ≤ sizeLine) (hdf : d.params.defaults = []) (hr : Room k callerA)
    (F : ∀ (w : World) (mg : Str → Option Value) (fa : Addr) (h : Heap), YP w h → h.Ns mainGlobals mg → mg d.name = some (.ref fa) →
      ∃ (K : PySem.W.Frag) (fd : FuncData) (cs : List (Addr × Addr)) (sp : Sp), K.In h ∧ (∀ p ∈ cs, h.get? p.2 = some { cls := .none, data := .fields #[] }) ∧ (∀ p ∈ cs, K.lookup p.2 = none) ∧ (∀ p ∈ cs, PySem.W.CodeHd h p.1 p.2) ∧ (∀ (s : Shared) (u : Value), BindsTo s fd ⟨[u], []⟩ [(x, u)]) ∧
        (∀ (H : Hp) (a : Addr) (ns : List Int), ns.length ≤ n → (∀ p ∈ cs, H p.2 = some (.tbl #[])) → SqL K H a (ns.map V.int) → sp [.ref a] H (fun v _ => v = .bl true) fun _ _ _ => False) ∧
        ∀ base : Heap, K.In base → base.Ns mainGlobals mg → (∀ p ∈ cs, TabB base mg p.1 p.2) → FnOk l.prog w K mg base (CXg l.prog w) k fa fd [x] sp) :
    PySem.W.WalkO q loose XP YP l.row.toRowW d [] (fun f vs => PySem.call f vs) := by
  refine Att.attach_call hn hdf fun w s₀ s₁ mg mb fa o pm cd doc a vs ns G Y ho hd hcd hmg hobj hints hlen hg => ?_
  obtain ⟨K, fd, cs, sp, KX, hT, nT, C, hb, hsp, hF⟩ := F w mg fa _ Y G.T.g hmg
  exact LamX.law_callTs KX G.T.g G.T.b G.T.builtins G.T.nolimit hg hT nT C G.T.bmain hobj hints (Nat.le_trans hlen hn2) hr hF hb (fun H hH hS => hsp H a ns hlen hH hS) fun H e s' h => by
    obtain ⟨a, B, H', cls, d, _, _, _, _, _, _, _, e⟩ := h
    exact e.elim
/-! ### the names' meaning with handed-on functions -/
section
variable {Γ : Gam} {c : Hp → Hp → Addr → CF0 → Prop} {m : ∀ {C C' F F' : Hp} {a : Addr} {f : CF0}, (∀ b o, C b = some o → C' b = some o) → (∀ b o, F b = some o → F' b = some o) → c C F a f → c C' F' a f}
noncomputable abbrev Gam.withCb (Γ : Gam) (c : Hp → Hp → Addr → CF0 → Prop) (m : ∀ {C C' F F' : Hp} {a : Addr} {f : CF0}, (∀ b o, C b = some o → C' b = some o) → (∀ b o, F b = some o → F' b = some o) → c C F a f → c C' F' a f) : Gam := { Γ with cb := c, cb_mono := m }
end
/-- the meaning with functions of a level -/
noncomputable def gmCb (Γ : Gam) (P : Program) (w : World) (mg : Str → Option Value) (base : Heap) (lev : Nat) : Gam := Γ.withCb (CbOk P w Γ.K mg base Γ lev) fun e e2 h => CbOk.mono e e2 h
theorem sp_lawQ {Γ : Gam} {fn : Fn} {H : Hp} {a : Addr} {ns : List Int} {as' : List Rv} {Q : VK} {E : XK} (hT : Tabs Γ.T H) (hS : SqL Γ.K H a (ns.map V.int)) (h : fn [.val (.scr (ns.map .int))] = .ok (.val (.bl true)) as') (hQ : ∀ H', Q (.bl true) H') : spG Γ 1 fn [.ref a] H Q E := by
  obtain ⟨as, F, A, hn, w⟩ := sp_law hT hS h
  refine ⟨as, F, A, hn, ?_⟩
  cases e : fn as with
  | ok r as2 =>
    rw [e] at w
    exact fun v H' F' A' ok => by
      have := w v H' F' A' ok
      subst this
      exact hQ H'
  | exc x as2 => rw [e] at w; exact fun cls d H' F' A' xr => (w cls d H' F' A' xr).elim
  | bad => rw [e] at w; exact w.elim
/-- the law's def with handed-on functions: its end -/
theorem law_end {P : Program} {w : World} {K : PySem.W.Frag} {h : Heap} {mg : Str → Option Value} {f : Addr} {fd : FuncData} {k : Nat} {x : Str} {fn : Fn} {fa : List Fa} {fnl : List He5.DefA} {ex : PySem.W.Frag → Bool} {ts : List Tb} {tf : TF} (Γ : Heap → Gam) (X : K.In h) (c : SaysL fa fnl ex ts tf w h K)
    (hK : ∀ base, (Γ base).K = K) (hT : ∀ base p, p ∈ (Γ base).T → ∃ f ∈ tf K, p.1 = tabA K f) (hb : ∀ (s : Shared) (u : Value), BindsTo s fd ⟨[u], []⟩ [(x, u)]) (main : ∀ ns : List Int, ns.length ≤ 63 → ∃ as', fn [.val (.scr (ns.map .int))] = .ok (.val (.bl true)) as')
    (ok : ∀ base : Heap, (∀ f ∈ tf K, TabB base mg (codeA K f) (tabA K f)) → FnOk P w K mg base (CXg P w) k f fd [x] (spG (Γ base) 1 fn)) :
    ∃ (fd : FuncData) (cs : List (Addr × Addr)) (sp : Sp), (∀ p ∈ cs, h.get? p.2 = some { cls := .none, data := .fields #[] }) ∧ (∀ p ∈ cs, K.lookup p.2 = none) ∧ (∀ p ∈ cs, PySem.W.CodeHd h p.1 p.2) ∧ (∀ (s : Shared) (u : Value), BindsTo s fd ⟨[u], []⟩ [(x, u)]) ∧
        (∀ (H : Hp) (a : Addr) (ns : List Int), ns.length ≤ 63 → (∀ p ∈ cs, H p.2 = some (.tbl #[])) → SqL K H a (ns.map V.int) → sp [.ref a] H (fun v _ => v = .bl true) fun _ _ _ => False) ∧
        ∀ base : Heap, K.In base → base.Ns mainGlobals mg → (∀ p ∈ cs, TabB base mg p.1 p.2) → FnOk P w K mg base (CXg P w) k f fd [x] sp := by
  refine ⟨fd, (tf K).map fun f => (codeA K f, tabA K f), fun vs H Q E => ∃ (a : Addr) (ns : List Int), vs = [.ref a] ∧ ns.length ≤ 63 ∧ (∀ f ∈ tf K, H (tabA K f) = some (.tbl #[])) ∧ SqL K H a (ns.map V.int) ∧ ∀ H', Q (.bl true) H', fun p hp => ?_, fun p hp => ?_, fun p hp => ?_, hb, fun H a ns hl hH hS => ?_, fun base _ _ hTB => ?_⟩
  · obtain ⟨g, hg, rfl⟩ := List.mem_map.mp hp; exact c.empty g hg
  · obtain ⟨g, hg, rfl⟩ := List.mem_map.mp hp; exact c.out g hg
  · obtain ⟨g, hg, rfl⟩ := List.mem_map.mp hp; exact PySem.W.codeHd_of_K X (c.hd g hg)
  · exact ⟨a, ns, rfl, hl, fun g hg => hH (codeA K g, tabA K g) (List.mem_map.mpr ⟨g, hg, rfl⟩), hS, fun _ => rfl⟩
  · refine (ok base fun g hg => hTB (codeA K g, tabA K g) (List.mem_map.mpr ⟨g, hg, rfl⟩)).imp fun vs H Q E ⟨a, ns, e, hl, hH, hS, hQ⟩ => ?_
    subst e
    obtain ⟨as', e⟩ := main ns hl
    refine sp_lawQ (fun p hp => ?_) (by rw [hK]; exact hS) e hQ
    obtain ⟨g, hg, e2⟩ := hT base p hp
    exact TabS.nil (by rw [e2]; exact hH g hg)
/-! ### what of the text a lambda must have -/
end G
namespace G
open PySem PySem.Spec PyProof.Rows L2
/-! ### the walk: functions that are handed on, rows of rows -/
section
variable {α : Type} {S : Slots} {i n m : Nat} {d : D} {o : Ov} {b : Bool}
noncomputable def cbK (k : CF0 → Prop) : Sv → Prop
  | .cb (.fn f) => k f
  | _ => False
theorem cbK_c {k : CF0 → Prop} {f : CF0} : cbK k (.cb (.fn f)) = k f := id rfl
theorem V_gCb {g : M (List D)} {K : D → Slots → Prop} : W (gCb i g) S K = WS i S (cbK fun f => W g S fun ds S1 => WL (f ds) fun d => K d S1) := by
  unfold WS
  have e : W (gCb i g) S K = match S[i]? with
    | some (.cb (.fn f)) => W (M.bind g fun ds => M.lift (f ds)) S K
    | _ => False := by
    unfold W gCb
    cases S[i]? with
    | none => rfl
    | some sv => cases sv with
      | cb f => cases f <;> rfl
      | _ => rfl
  rw [e]
  cases S[i]? with
  | none => rfl
  | some sv =>
    cases sv with
    | cb f0 =>
     cases f0 with
     | tag => rfl
     | fn f =>
      show W (M.bind g fun ds => M.lift (f ds)) S K = _
      rw [W_bind]
      show W g S _ = W g S _
      congr 1
      funext ds S1
      rw [W_lift]
    | _ => rfl
/-! the lambda's own run -/
noncomputable def slotsV : List D → Slots → Slots
  | [], T => T
  | d :: r, T => .val d :: slotsV r T
theorem slotsV_eq : ∀ (ds : List D) (T : Slots), slotsV ds T = ds.map .val ++ T
  | [], T => rfl
  | d :: r, T => by rw [slotsV, slotsV_eq r T]; rfl
noncomputable def WV (ds : List D) (T : Slots) (k : Slots → Prop) : Prop := k (slotsV ds T)
theorem WV_n {T : Slots} {k : Slots → Prop} : WV [] T k = k T := id rfl
theorem WV_c {ds : List D} {T : Slots} {k : Slots → Prop} : WV (d :: ds) T k = WV ds T fun S => k (.val d :: S) := id rfl
noncomputable def WR (n : Nat) (k : Slots → Prop) : Prop := k (List.replicate n .no)
theorem WR_0 {k : Slots → Prop} : WR 0 k = k [] := id rfl
theorem WR_1 {k : Slots → Prop} : WR 1 k = k [.no] := id rfl
theorem WR_2 {k : Slots → Prop} : WR 2 k = k [.no, .no] := id rfl
theorem WR_3 {k : Slots → Prop} : WR 3 k = k [.no, .no, .no] := id rfl
theorem V_cloF {mb : M D} {cd ds : List D} {K : D → Prop} : WL (cloF n m mb cd ds) K = WC (ds.length = n) (WR m fun R => WV cd R fun T => WV ds T fun S => W mb S fun d _ => K d) := by
  unfold WR WV
  simp only [slotsV_eq]
  unfold cloF WC
  by_cases h : ds.length = n
  · rw [if_pos h]
    unfold W
    cases e : mb (ds.map .val ++ (cd.map .val ++ List.replicate m .no)) with
    | ok p => simp only [h, true_and]; rfl
    | exc x S' => simp only [h, true_and]; rfl
    | bad => simp only [h, true_and]; rfl
  · rw [if_neg h]
    simp only [h, false_and]; rfl
/-! argument lists with a lambda -/
theorem V_lV {ga : M D} {gr : M L1} {K : L1 → Slots → Prop} : W (lV ga gr) S K = W ga S fun a S1 => W gr S1 fun t S2 => K (.v a :: t.1, t.2) S2 := by
  unfold lV; rw [W_bind]; congr 1; funext d S1; rw [W_bind]; rfl
noncomputable def lSK (A : Prop) : Sv → Prop
  | .no => False
  | _ => A
theorem lSK_v {A : Prop} : lSK A (.val d) = A := id rfl
theorem lSK_o {A : Prop} : lSK A (.own o b) = A := id rfl
theorem lSK_c {A : Prop} {f : CF} : lSK A (.cb f) = A := id rfl
theorem V_lS {gr : M L1} {K : L1 → Slots → Prop} : W (lS i gr) S K = WS i S (lSK (W gr S fun t S2 => K (.s i :: t.1, t.2) S2)) := by
  have key : W (M.bind gr fun t => M.pure ((AK.s i :: t.1, t.2) : L1)) S K = W gr S fun t S2 => K (.s i :: t.1, t.2) S2 := by rw [W_bind]; rfl
  unfold WS
  rw [← key]
  unfold W lS
  cases S[i]? with
  | none => rfl
  | some sv => cases sv <;> rfl
/-- the captured data -/
noncomputable def WCap (S : Slots) (ix : List Nat) (k : List D → Prop) : Prop := WL (capsOf S ix) k
noncomputable def valK (k : D → Prop) : Sv → Prop
  | .val d => k d
  | _ => False
theorem valK_v {k : D → Prop} : valK k (.val d) = k d := id rfl
theorem WCap_n {k : List D → Prop} : WCap S [] k = k [] := id rfl
theorem WCap_c {ix : List Nat} {k : List D → Prop} : WCap S (i :: ix) k = WS i S (valK fun d => WCap S ix fun ds => k (d :: ds)) := by
  unfold WCap WS
  have e : capsOf S (i :: ix) = match S[i]?, capsOf S ix with
    | some (.val d), some ds => some (d :: ds)
    | _, _ => none := rfl
  rw [e]
  cases S[i]? with
  | none => rfl
  | some sv =>
    cases sv with
    | val d => cases capsOf S ix <;> rfl
    | _ => cases capsOf S ix <;> rfl
theorem V_lC {ix : List Nat} {mb : M D} {gr : M (List AK)} {K : L1 → Slots → Prop} : W (lC ix n m mb gr) S K = WCap S ix fun cd => W gr S fun r S2 => K ([], cloF n m mb cd, r) S2 := by
  unfold WCap
  cases h : capsOf S ix with
  | none => unfold W lC; simp only [h]; rfl
  | some cd =>
    have e : W (lC ix n m mb gr) S K = W (M.bind gr fun r => M.pure (([], cloF n m mb cd, r) : L1)) S K := by unfold W lC; simp only [h]
    rw [e, W_bind]; rfl
/-! calls that hand a lambda on -/
noncomputable def insB : List AK → Rv → List Rv → List Rv
  | [], f, l => f :: l
  | _ :: p, f, a :: l => a :: insB p f l
  | _ :: _, _, [] => []
noncomputable def delB : List AK → List Rv → List Rv
  | [], _ :: l => l
  | _ :: p, a :: l => a :: delB p l
  | _, [] => []
theorem insB_n {f : Rv} {l : List Rv} : insB [] f l = f :: l := id (by cases l <;> rfl)
theorem insB_c {k : AK} {p : List AK} {f a : Rv} {l : List Rv} : insB (k :: p) f (a :: l) = a :: insB p f l := id rfl
theorem delB_n {a : Rv} {l : List Rv} : delB [] (a :: l) = l := id rfl
theorem delB_c {k : AK} {p : List AK} {a : Rv} {l : List Rv} : delB (k :: p) (a :: l) = a :: delB p l := id rfl
theorem V_gCallL {fn : Fn} {gl : M L1} {K : Pv → Slots → Prop} : W (gCallL fn n gl) S K = W gl S fun t S1 => WC (t.1.length + 1 + t.2.2.length = n) (W (callL fn t.1 t.2.1 t.2.2) S1 K) := by
  unfold gCallL
  rw [W_bind]
  congr 1
  funext t S1
  unfold WC
  by_cases h : t.1.length + 1 + t.2.2.length = n
  · rw [if_pos h]; simp only [h, true_and]
  · rw [if_neg h]; simp only [h, false_and]; rfl
theorem V_gMethL {c : Nat} {mn : Str} {fn : Fn} {gp : M Pd} {gl : M L1} {K : Pv → Slots → Prop} : W (gMethL c mn fn n gp gl) S K = W gp S fun p S1 => WL (drf S1 p) fun d => WC (isIns c mn d = true) (W gl S1 fun t S2 => WC (t.1.length + 1 + t.2.2.length = n) (W (callL fn (akOf p :: t.1) t.2.1 t.2.2) S2 K)) := by
  unfold gMethL
  rw [W_bind]
  congr 1
  funext p S1
  cases h1 : drf S1 p with
  | none => unfold W; simp only [h1]; rfl
  | some d =>
    unfold WL WC W
    simp only [h1]
    by_cases hi : isIns c mn d = true
    · simp only [hi, if_true, true_and]
      unfold M.bind
      cases gl S1 with
      | ok p =>
        obtain ⟨t, S2⟩ := p
        simp only []
        by_cases h : t.1.length + 1 + t.2.2.length = n
        · rw [if_pos h]; simp only [h, true_and]
        · rw [if_neg h]; simp only [h, false_and]; rfl
      | exc x S' => rfl
      | bad => rfl
    · have hi2 : isIns c mn d = false := by simpa using hi
      rw [hi2]
      simp only [Bool.false_eq_true, if_false, false_and]
/-! rows of rows -/
end
/-! is, of truth values -/
end G
namespace G
open PySem PySem.Spec PyProof.Rows L2
/-! ### a tuple repeated -/
end G
namespace G
open PySem PySem.Spec PyProof.Rows L2
end G
namespace G
open PySem PySem.Spec PyProof.Rows L2 PySem.W PySem.Calls HandSHeadRun
/-! ### the head's run in parts: less memory at once -/
end G
namespace PySem.W
open PySem PySem.Calls PyProof.Rows Builtin
end PySem.W
namespace G
open PySem PySem.Spec PyProof.Rows L2
end G
namespace G
open PySem PySem.Spec PyProof.Rows L2
open He (Fa eqO eqO_ok ba ga ma frG frG_in)
end G
namespace G
open PySem PySem.Spec PyProof.Rows L2
end G
namespace G
open PySem PySem.Spec PyProof.Rows L2
end G
namespace G
open PySem PySem.Spec PyProof.Rows L2
end G
namespace G
open PySem PySem.Spec PyProof.Rows L2
end G
namespace G
open PySem PySem.Spec PyProof.Rows L2
section
variable {Γ : Gam} {fx : Fx} {E : WX} {X : Cx} {pos : Pos}
/-! ### [x, y] == z, the lists of x and y only read -/
theorem Pks.dp {F H : Hp} (e : Ext F H) : ∀ {ds : List D} {vs : List V} {ps : List PyData}, Pks Γ F H ds vs → pyDs ds = some ps → DpAll Γ.K H vs ps
  | [], vs, ps, h, q => by cases h; cases q; exact .nil
  | d :: r, vs, ps, h, q => by
    obtain ⟨v, u, rfl, h1, h2⟩ := h
    unfold pyDs at q
    split at q
    · rename_i x xs e1 e2
      cases q
      exact .cons (h1.dp e e1) (Pks.dp e h2 e2)
    · cases q
theorem Pks.len {F H : Hp} : ∀ {ds : List D} {vs : List V}, Pks Γ F H ds vs → ds.length = vs.length
  | [], vs, h => by cases h; rfl
  | d :: r, vs, h => by obtain ⟨v, u, rfl, h1, h2⟩ := h; rw [List.length_cons, List.length_cons, Pks.len h2]
end
end G
namespace G
open PySem PySem.Spec PyProof.Rows L2
end G
namespace G
open PySem PySem.Spec PyProof.Rows L2
end G
namespace G
open PySem PySem.Spec PyProof.Rows L2
end G
namespace G
open PySem PySem.Spec PyProof.Rows L2
open PySem.W (KxsAt kxs_mw kxs_ValueError ks_superIn)
/-! ### errors over any base -/
/-- a built-in class that own errors stand over -/
structure XB where
  B : String
  newId : String
  initId : String
  tail : List Value
structure XBOk (b : XB) : Prop where
  fb : ExcBaseFacts b.B b.newId b.initId b.tail
  kx : PySem.W.KxsFacts b.B b.initId
  pass : ∀ self : Value, PySem.refuseLoop self "__setattr__" b.tail = pure ()
  ob : b.tail.contains (.type "object") = true
  ne : b.tail.isEmpty = false
/-- own classes, then the base's order -/
noncomputable def refsT (tl : List Value) : List Value → Bool
  | .ref _ :: r => refsT tl r
  | l => l == tl
/-- what the written part says of the class -/
structure OexG (b : XB) (K : PySem.W.Frag) (C : Addr) : Prop where
  ok : XBOk b
  cls : ∃ nm q N bs bm sn sub ab col dd k0 k1 k2 k3 k5, K.lookup C = some (excClassObj nm q C N bs bm true sn sub ab col dd k0 k1 k2 k3 k5 b.newId) ∧ refsT b.tail bm = true
  sa : PySem.W.findIn K (.ref C) "__setattr__" = some (some (.builtin "object.__setattr__"))
  exC : PySem.W.subIn K (.ref C) (.type "BaseException") = some true
  tyC : PySem.W.typeIn K (.ref C) = some (.type "type")
  kC : PySem.W.keepIn K (.ref C) = true
section
variable {X : Cx} {pins : List (Addr × Obj)} {σ : L2.St} {H : Hp} {s : Shared} {a C dx : Addr} {f : Str} {y : V} {u : Value} {fs : List (Str × V)} {Q : Unit → Shared → Prop} {E : Value → Shared → Prop} {A : Around} {b : XB}
theorem OexG.cd {K : PySem.W.Frag} (T : OexG b K C) : ∃ cd, PySem.W.clsIn K C = some cd ∧ refsT b.tail cd.mro = true ∧ cd.hasDict = true := by
  obtain ⟨nm, q, N, bs, bm, sn, sub, ab, col, dd, k0, k1, k2, k3, k5, hC, hbm⟩ := T.cls
  exact ⟨{ name := nm, bases := bs, mro := .ref C :: bm, ns := N, qualname := q, hasDict := true, slotNames := sn, subclasses := sub, abstract := ab, collection := col, hasDel := false }, by unfold PySem.W.clsIn; rw [hC] <;> rfl, hbm, rfl⟩
end
/-! ### an error's own __init__: super().__init__(..), then the fields -/
end G
namespace G
open PySem PySem.Spec PyProof.Rows L2
open He (eqO eqO_ok ba ga ma)
/-! ### the check of an error class -/
end G
namespace G
open PySem PySem.Spec PyProof.Rows L2
/-! ### raise C(..) -/
end G
namespace G
open PySem PySem.Spec PyProof.Rows L2
/-! ### try: .. except (A, B, C) as e -/
end G
namespace G
open PySem PySem.Spec PyProof.Rows L2
/-! ### what is read of a caught exception -/
inductive VR (α : Type) where
  | at (a : α)
  | tup (as : List α)
noncomputable def xcStrs : List Expr → Option (List Str)
  | [] => some []
  | .Constant (.str c) _ _ :: r => (xcStrs r).map (c :: ·)
  | _ => none
noncomputable def xfT (e code : Str) : Expr → Option Bool
  | .Compare (.Attribute (.Name y _) n _) [.In] [.Tuple es _ _] _ => if y = e ∧ n = ("code" : Str) ∧ es.length ≤ 1000 then (xcStrs es).map fun l => l.any fun c => decide (c = code) else none
  | .Compare (.Attribute (.Name y _) n _) [.Eq] [.Constant (.str c) _ _] _ => if y = e ∧ n = ("code" : Str) then some (decide (code = c)) else none
  | _ => none
section
variable {α : Type} (e code : Str) (lk : Str → Option α) (nn : α)
noncomputable def xfA : Expr → Option (VR α)
  | .Attribute (.Name y _) n _ => if y = e then (lk n).map .at else none
  | .Constant .none _ _ => some (.at nn)
  | .Tuple [.Attribute (.Name y _) n _, .Attribute (.Name y2 _) n2 _] _ _ => if y = e ∧ y2 = e then (match lk n, lk n2 with
    | some a, some b => some (.tup [a, b])
    | _, _ => none) else none
  | _ => none
noncomputable def xfE : Expr → Option (VR α)
  | .IfExp t a b _ => match xfT e code t with
    | some true => xfA e lk nn a
    | some false => xfA e lk nn b
    | none => none
  | x => xfA e lk nn x
noncomputable def xfS : List Stmt → Option (VR α)
  | .Return (some v) _ :: _ => xfE e code lk nn v
  | .If t [.Return (some v) _] [] _ :: r => match xfT e code t with
    | some true => xfE e code lk nn v
    | some false => xfS r
    | none => none
  | _ => none
end
noncomputable def RQ (r : VR V) (H : Hp) (Q : VK) : Prop := match r with
  | .at v => ∀ H1, Ext H H1 → Q v H1
  | .tup vs => ∀ H1 p, Ext H H1 → H p = none → H1 p = some (.tup vs) → Q (.ref p) H1
theorem RQ.mono {r : VR V} {H H1 : Hp} {Q : VK} (ex : Ext H H1) (h : RQ r H Q) : RQ r H1 Q := by
  cases r with
  | «at» v => exact fun H2 e2 => h H2 (ex.trans e2)
  | tup vs => exact fun H2 p e2 n2 e3 => h H2 p (ex.trans e2) (by
      cases q : H p with
      | none => rfl
      | some o => rw [ex p o q] at n2; cases n2) e3
section
variable {X : Cx} {a C dd : Addr} {oe : Obj} {i : Nat} {e code : Str} {l : List (Str × V)}
/-- what the readings want at the state -/
noncomputable def XPre (i : Nat) (a dd : Addr) (l : List (Str × V)) (code : Str) (σ : L2.St) (H : Hp) : Prop := σ[i]? = some (some (.ref a)) ∧ H dd = some (.xd l) ∧ l.lookup ("code" : Str) = some (.str code)
theorem XPre.ext {σ : L2.St} {H H1 : Hp} (h : XPre i a dd l code σ H) (ex : Ext H H1) : XPre i a dd l code σ H1 := ⟨h.1, ex _ _ h.2.1, h.2.2⟩
theorem pss_never {x : List Stmt} : PSs X x (fun _ _ _ => False) := ⟨fun _ _ _ _ _ _ h => h.elim⟩
end
end G
namespace G
open PySem PySem.Spec PyProof.Rows L2
open L2H (RoomH PinOk cxH inv_startH)
/-! ### a def called within an except suite with the caught exception -/
/-- what of an error class a reading of its instances asks -/
structure XcOk (K : PySem.W.Frag) (C : Addr) (l : List Str) : Prop where
  T : XfC K C
  no : ∀ n ∈ l, PySem.W.findIn K (.ref C) n = some none
end G
namespace G
open PySem PySem.Spec PyProof.Rows L2
/-! ### got(ask): ("", answer), or the code of an error and what it has -/
noncomputable def GQ (code : Str) (r : VR V) (H : Hp) (Q : VK) : Prop := match r with
  | .at v => ∀ H2 p, Ext H H2 → H p = none → H2 p = some (.tup [.str code, v]) → Q (.ref p) H2
  | .tup vs => ∀ H2 p1 p2, Ext H H2 → H p1 = none → H p2 = none → p1 ≠ p2 → H2 p1 = some (.tup vs) → H2 p2 = some (.tup [.str code, .ref p1]) → Q (.ref p2) H2
/-- what a caught error must be -/
noncomputable def GX (K : PySem.W.Frag) (cs : List Value) (ef : Str) (fb : List Stmt) (cls : Value) (d : Option Addr) (H : Hp) (Q : VK) : Prop := ∃ C dd l code r, cls = .ref C ∧ d = some dd ∧ H dd = some (.xd l) ∧ PySem.W.exmAny K cls cs = some true ∧ XcOk K C (l.map (·.1)) ∧ l.lookup ("code" : Str) = some (.str code) ∧
  xfS ef code (fun y => l.lookup y) V.non fb = some r ∧ GQ code r H Q
end G
namespace G
open PySem PySem.Spec PyProof.Rows L2
open LamX (CodeO TabB Tabs)
/-! ### a lambda that is called while its def waits: what it captures is lent to it, it may raise -/
/-- a lambda's function, its defaults at dV -/
noncomputable abbrev fdLam (q : Str) (params : Arguments) (body : Expr) (scope : Scope) (cl : List (Str × Addr)) (dV pm cdv ctv : Value) : FuncData := { PySem.W.kla_fn "<lambda>" q params body scope cl pm cdv ctv with defaults := dV }
noncomputable abbrev lamD (q : Str) (params : Arguments) (body : Expr) (scope : Scope) (cl : List (Str × Addr)) (dV pm : Value) (c' : Addr) (ctv : Value) : Obj := { cls := .type "function", data := .func (fdLam q params body scope cl dV pm (.ref c') ctv) }
noncomputable def DvH (H : Hp) (dV : Value) : List Int → Prop
  | [] => dV = .none
  | i :: r => ∃ D, dV = .ref D ∧ H D = some (.tup ((i :: r).map V.int))
end G
namespace G
open PySem PySem.Spec PyProof.Rows L2
open LamX (CodeO TabB Tabs)
end G
namespace G
open PySem PySem.Spec PyProof.Rows L2
open LamX (CodeO TabB Tabs)
/-! ### got(lambda: e) -/
end G
namespace G
open PySem PySem.Spec PyProof.Rows L2
open LamX (CodeO TabB Tabs)
open PySem.W (CodeHd tabObj)
/-! ### lambda p=0: .. is made -/
section
variable {X : Cx} {pins : List (Addr × Obj)} {σ : L2.St} {H : Hp} {s : Shared}
/-- .. and new -/
noncomputable def DvN (H H1 : Hp) (dV : Value) : List Int → Prop
  | [] => dV = .none
  | i :: r => ∃ D, dV = .ref D ∧ H D = none ∧ H1 D = some (.tup ((i :: r).map V.int))
end
end G
namespace G
open PySem PySem.Spec PyProof.Rows L2
open LamX (CodeO TabB Tabs)
end G
namespace G
open PySem PySem.Spec PyProof.Rows L2
/-! ### the walk of what may raise -/
noncomputable def WY {α : Type} (g : M α) (S : Slots) (K : α → Slots → Prop) (Ke : Xn → Slots → Prop) : Prop := match g S with
  | .ok (a, S') => K a S'
  | .exc x S' => Ke x S'
  | .bad => False
noncomputable def WFY (r : FR) (K : Rv → List Rv → Prop) (Ke : Xn → List Rv → Prop) : Prop := match r with
  | .ok v as => K v as
  | .exc x as => Ke x as
  | .bad => False
section
variable {α β : Type} {S : Slots} {i n m : Nat} {d : D} {pv : Pv}
theorem WY.mono {g : M α} {K K' : α → Slots → Prop} {Ke Ke' : Xn → Slots → Prop} (h : WY g S K Ke) (k : ∀ a S, K a S → K' a S) (ke : ∀ x S, Ke x S → Ke' x S) : WY g S K' Ke' := by
  unfold WY at h ⊢
  cases e : g S with
  | ok p => rw [e] at h; exact k _ _ h
  | exc x S' => rw [e] at h; exact ke _ _ h
  | bad => rw [e] at h; exact h
theorem WFY.mono {r : FR} {K K' : Rv → List Rv → Prop} {Ke Ke' : Xn → List Rv → Prop} (h : WFY r K Ke) (k : ∀ a S, K a S → K' a S) (ke : ∀ x S, Ke x S → Ke' x S) : WFY r K' Ke' := by
  cases r with
  | ok v as => exact k _ _ h
  | exc x as => exact ke _ _ h
  | bad => exact h.elim
/-! statements -/
/-! ### got(lambda: e) -/
end
end G
namespace G
open PySem PySem.Spec PyProof.Rows L2
open He (eqO eqO_ok ba ga ma)
/-! ### what a law's facts say of its errors -/
/-! ### what of the text such a lambda must have -/
end G
namespace G
open PySem PySem.Spec PyProof.Rows L2
/-! ### raise C() -/
end G
namespace G
open PySem PySem.Spec PyProof.Rows L2
/-! ### the walk of what may raise: calls with a lambda -/
end G
namespace G
open PySem PySem.Spec PyProof.Rows L2
open He (Fa eqO eqO_ok ba ga ma frG frG_in)
open LamX (CodeO TabB Tabs TabS)
/-! ### the head's facts again: the written part is gathered by levels, without looking for doubles -/
end G
namespace G
open PySem PySem.Spec PyProof.Rows L2
/-! ### a row of functions that are asked, one after the other -/
theorem GQ.mono {code : Str} {r : VR V} {H : Hp} {Q Q' : VK} (h : GQ code r H Q) (k : ∀ v H, Q v H → Q' v H) : GQ code r H Q' := by
  cases r with
  | «at» v => exact fun H2 p a b c => k _ _ (h H2 p a b c)
  | tup vs => exact fun H2 p1 p2 a b c d e f => k _ _ (h H2 p1 p2 a b c d e f)
theorem GX.mono {K : PySem.W.Frag} {cs : List Value} {ef : Str} {fb : List Stmt} {cls : Value} {d : Option Addr} {H : Hp} {Q Q' : VK} (h : GX K cs ef fb cls d H Q) (k : ∀ v H, Q v H → Q' v H) : GX K cs ef fb cls d H Q' := by
  obtain ⟨C, dd, l, code, r, h1, h2, h3, h4, h5, h6, h7, h8⟩ := h
  exact ⟨C, dd, l, code, r, h1, h2, h3, h4, h5, h6, h7, h8.mono k⟩
end G
namespace G
open PySem PySem.Spec PyProof.Rows L2
open LamX (CodeO TabB Tabs)
/-! ### a row of lambdas is asked -/
/-- what of a lambda's text is told -/
structure LamS where
  params : Arguments
  body : Expr
  scope : Scope
  pos : Pos
  dv : List Int
/-- l's function stands at a -/
noncomputable def LamIn (X : Cx) (H : Hp) (l : LamS) (a : Addr) : Prop := ∃ c' dV pm ctv, H a = some (ObE a (lamD (X.env.qual ++ "<lambda>") l.params l.body l.scope (cloFrom X.env.cells l.scope.names []) dV pm c' ctv)) ∧ H c' = some (CodeO c' (X.env.qual ++ "<lambda>")) ∧ DvH H dV l.dv
noncomputable def LamsIn (X : Cx) (H : Hp) : List LamS → List Addr → Prop
  | [], fs => fs = []
  | l :: ls, fs => ∃ f r, fs = f :: r ∧ LamIn X H l f ∧ LamsIn X H ls r
theorem DvH.mono {H H' : Hp} {dV : Value} (h : ∀ b o, H b = some o → (∀ ps, o ≠ .tbl ps) → H' b = some o) : ∀ {dv : List Int}, DvH H dV dv → DvH H' dV dv
  | [], x => x
  | _ :: _, ⟨D, e, x⟩ => ⟨D, e, h _ _ x fun _ z => HO.noConfusion z⟩
theorem LamIn.mono {X : Cx} {H H' : Hp} {l : LamS} {a : Addr} (h : ∀ b o, H b = some o → (∀ ps, o ≠ .tbl ps) → H' b = some o) (x : LamIn X H l a) : LamIn X H' l a := by
  obtain ⟨c', dV, pm, ctv, h1, h2, h3⟩ := x
  exact ⟨c', dV, pm, ctv, h _ _ h1 fun _ z => HO.noConfusion z, h _ _ h2 fun _ z => HO.noConfusion z, h3.mono h⟩
theorem LamsIn.mono {X : Cx} {H H' : Hp} (h : ∀ b o, H b = some o → (∀ ps, o ≠ .tbl ps) → H' b = some o) : ∀ {ls : List LamS} {fs : List Addr}, LamsIn X H ls fs → LamsIn X H' ls fs
  | [], _, x => x
  | _ :: _, _, ⟨f, r, e, x, y⟩ => ⟨f, r, e, x.mono h, LamsIn.mono h y⟩
theorem LamsIn.app {X : Cx} {H : Hp} : ∀ {ls ks : List LamS} {fs gs : List Addr}, LamsIn X H ls fs → LamsIn X H ks gs → LamsIn X H (ls ++ ks) (fs ++ gs)
  | [], _, _, _, x, y => by cases x; exact y
  | _ :: _, _, _, _, ⟨f, r, e, x, z⟩, y => by subst e; exact ⟨f, _, rfl, x, LamsIn.app z y⟩
noncomputable def gl : List (M D) → M (List D)
  | [] => gNil
  | g :: r => gCons g (gl r)
theorem Good.imp {α : Type} {r : R (α × Slots)} {K K' : α → Slots → Prop} (h : Good r K) (k : ∀ a S', K a S' → K' a S') : Good r K' := by
  cases r with
  | ok p => obtain ⟨a, S'⟩ := p; exact k a S' h
  | exc x S' => exact h.elim
  | bad => exact h.elim
end G
namespace G
open PySem PySem.Spec PyProof.Rows L2
open LamX (CodeO TabB Tabs)
/-! ### all_got(asks) -/
/-! ### asks = [lambda: .., ..] -/
noncomputable def clr (i : Nat) : R (Fl × Slots) → R (Fl × Slots)
  | .ok (.rt (.sl j), S') => if j = i then .bad else .ok (.rt (.sl j), S'.set i .no)
  | .ok (.rt (.dat d), S') => .ok (.rt (.dat d), S'.set i .no)
  | .ok (.rt (.fr o), S') => .ok (.rt (.fr o), S'.set i .no)
  | .ok (.nx, S') => .ok (.nx, S'.set i .no)
  | .ok (.bk, S') => .ok (.bk, S'.set i .no)
  | .ok (.ct, S') => .ok (.ct, S'.set i .no)
  | .exc x S' => .exc x (S'.set i .no)
  | .bad => .bad
/-! the row is made -/
noncomputable def LamNew (X : Cx) (H H1 : Hp) (l : LamS) (a : Addr) : Prop := ∃ c' dV pm ctv, H1 a = some (ObE a (lamD (X.env.qual ++ "<lambda>") l.params l.body l.scope (cloFrom X.env.cells l.scope.names []) dV pm c' ctv)) ∧ H1 c' = some (CodeO c' (X.env.qual ++ "<lambda>")) ∧ DvN H H1 dV l.dv
noncomputable def LamsNew (X : Cx) (H H1 : Hp) : List LamS → List Addr → Prop
  | [], fs => fs = []
  | l :: ls, fs => ∃ f r, fs = f :: r ∧ LamNew X H H1 l f ∧ LamsNew X H H1 ls r
theorem Grow.no {H H1 : Hp} (g : Grow H H1) {b : Addr} (h : H1 b = none) : H b = none := by
  cases e : H b with
  | none => rfl
  | some o =>
    by_cases ht : ∃ ps, o = .tbl ps
    · obtain ⟨ps, rfl⟩ := ht
      obtain ⟨m, h2⟩ := g.tb b ps e
      rw [h] at h2; cases h2
    · have := g.st b o e fun ps z => ht ⟨ps, z⟩
      rw [h] at this; cases this
theorem Grow.trans {H H1 H2 : Hp} (g : Grow H H1) (k : Grow H1 H2) : Grow H H2 := ⟨fun b o e n => k.st b o (g.st b o e n) n, fun b ps e => by
  obtain ⟨m, h1⟩ := g.tb b ps e
  obtain ⟨m2, h2⟩ := k.tb b _ h1
  exact ⟨m ++ m2, by rw [h2, Array.append_assoc]⟩⟩
theorem DvN.mono {H0 H H1 H2 : Hp} {dV : Value} (h0 : ∀ b, H b = none → H0 b = none) (g : Grow H1 H2) : ∀ {dv : List Int}, DvN H H1 dV dv → DvN H0 H2 dV dv
  | [], x => x
  | _ :: _, ⟨D, e, n, x⟩ => ⟨D, e, h0 _ n, g.st _ _ x fun _ z => HO.noConfusion z⟩
theorem LamNew.mono {X : Cx} {H0 H H1 H2 : Hp} {l : LamS} {a : Addr} (h0 : ∀ b, H b = none → H0 b = none) (g : Grow H1 H2) (x : LamNew X H H1 l a) : LamNew X H0 H2 l a := by
  obtain ⟨c', dV, pm, ctv, h1, h2, h3⟩ := x
  exact ⟨c', dV, pm, ctv, g.st _ _ h1 fun _ z => HO.noConfusion z, g.st _ _ h2 fun _ z => HO.noConfusion z, h3.mono h0 g⟩
theorem LamsNew.mono {X : Cx} {H0 H H1 H2 : Hp} (h0 : ∀ b, H b = none → H0 b = none) (g : Grow H1 H2) : ∀ {ls : List LamS} {fs : List Addr}, LamsNew X H H1 ls fs → LamsNew X H0 H2 ls fs
  | [], _, x => x
  | _ :: _, _, ⟨f, r, e, x, y⟩ => ⟨f, r, e, x.mono h0 g, LamsNew.mono h0 g y⟩
/-! the walk -/
end G
namespace G
open PySem PySem.Spec PyProof.Rows L2
/-! ### a law's own def that asks a row -/
end G
namespace G
open PySem PySem.Spec PyProof.Rows L2
/-! ### e.f as a target among others -/
end G
namespace G
open PySem PySem.Spec PyProof.Rows L2
open LamX (CodeO TabB Tabs)
/-! ### asks = asks + [lambda: .., ..] -/
section
variable {Γ : Gam} {fx : Fx} {E : WX} {X : Cx}
theorem LamsNew.length {X : Cx} {H H1 : Hp} : ∀ {ls : List LamS} {fs : List Addr}, LamsNew X H H1 ls fs → fs.length = ls.length
  | [], _, h => by cases (show _ = [] from h); rfl
  | _ :: _, _, ⟨_, _, e, _, y⟩ => by subst e; rw [List.length_cons, List.length_cons, LamsNew.length y]
theorem LamsIn.length {X : Cx} {H : Hp} : ∀ {ls : List LamS} {fs : List Addr}, LamsIn X H ls fs → fs.length = ls.length
  | [], _, h => by cases (show _ = [] from h); rfl
  | _ :: _, _, ⟨_, _, e, _, y⟩ => by subst e; rw [List.length_cons, List.length_cons, LamsIn.length y]
end
end G
namespace G
open PySem PySem.Spec PyProof.Rows L2 PySem.W PySem.Calls HandSHeadRun
/-! ### the head's run in parts, the written part by levels -/
end G
namespace PySem.W
open PySem PySem.Calls PyProof.Rows Builtin
end PySem.W
namespace G
open PySem PySem.Spec PyProof.Rows L2
end G
namespace PySem
open Sem (wp)
section
variable {prog : Program} {w : World} {K : Type} [DecidableEq K] {knd : KeyKind prog w K} {A : Around} {E : Value → Shared → Prop} {s : Shared}
theorem Pairs.mem {es : List DictEntry} {kvs : List (K × Value)} (h : Pairs knd es kvs) {e : DictEntry} (he : e ∈ es) : ∃ p ∈ kvs, knd.is p.1 e.key = true ∧ e.val = p.2 := by
  induction h with
  | nil => exact nomatch he
  | @cons e' kv es' kvs' h1 h2 _ ih =>
    rcases List.mem_cons.mp he with q | q
    · subst q; exact ⟨kv, List.mem_cons_self .., h1, h2⟩
    · obtain ⟨p, hp, z⟩ := ih q
      exact ⟨p, List.mem_cons_of_mem _ hp, z⟩
end
end PySem
namespace G
open PySem PySem.Spec PyProof.Rows L2
end G
namespace G
open PySem PySem.Spec PyProof.Rows L2
end G
namespace G
open PySem PySem.Spec PyProof.Rows L2
end G
namespace G
open PySem PySem.Spec PyProof.Rows L2
/-! ### keys that are tuples, at any depth -/
mutual
noncomputable def nkey : D → Option NestedKey
  | .non => some .none
  | .bl b => some (.num (if b = true then 1 else 0))
  | .int i => some (.num i)
  | .str x => some (.text x)
  | .tup ds => match nkeys ds with
    | some ks => some (.tup ks)
    | none => none
  | .lst _ => none
  | .dic _ _ => none
  | .ins _ _ _ => none
  | .clo _ _ => none
  | .scr _ => none
  | .cls _ => none
noncomputable def nkeys : List D → Option (List NestedKey)
  | [] => some []
  | d :: r => match nkey d, nkeys r with
    | some k, some ks => some (k :: ks)
    | _, _ => none
end
noncomputable def tkey : D → Option NestedKey
  | .tup ds => match nkeys ds with
    | some ks => if (NestedKey.tup ks).depth ≤ 8 then some (.tup ks) else none
    | none => none
  | _ => none
mutual
noncomputable def NKat (K : PySem.W.Frag) (H : Hp) : NestedKey → V → Prop
  | .none, v => v = .non
  | .num i, v => v = .int i ∨ ∃ b : Bool, v = .bl b ∧ i = if b = true then 1 else 0
  | .text x, v => v = .str x
  | .tup ks, v => ∃ a vs, v = .ref a ∧ SqT K H a vs ∧ NKats K H ks vs
noncomputable def NKats (K : PySem.W.Frag) (H : Hp) : List NestedKey → List V → Prop
  | [], vs => vs = []
  | k :: ks, vs => ∃ v r, vs = v :: r ∧ NKat K H k v ∧ NKats K H ks r
end
section
variable {X : Cx} {pins : List (Addr × Obj)} {σ : L2.St} {H : Hp} {s : Shared}
mutual
theorem inv_nk (I : Inv X pins σ H s) : ∀ (k : NestedKey) (v : V) (u : Value), NKat X.K H k v → RelV v u → NestedIs s.heap k u
  | .none, v, u, h, r => by cases (show v = .non from h); cases r; exact .none
  | .num i, v, u, h, r => by
    rcases (show v = .int i ∨ ∃ b : Bool, v = .bl b ∧ i = if b = true then 1 else 0 from h) with rfl | ⟨b, rfl, e⟩
    · obtain ⟨t, rfl⟩ := r; exact .int i t
    · cases r; exact .bool e
  | .text x, v, u, h, r => by cases (show v = .str x from h); obtain ⟨t, rfl⟩ := r; exact .text x t
  | .tup ks, v, u, h, r => by
    obtain ⟨a, vs, rfl, hT, hs⟩ := (show ∃ a vs, v = .ref a ∧ SqT X.K H a vs ∧ NKats X.K H ks vs from h)
    cases r
    obtain ⟨its, rv, ⟨o, e1, e2, n, e3⟩, _⟩ := I.tuple hT
    exact .tup e1 e2 e3 (by simpa using inv_nks I ks vs its hs rv)
theorem inv_nks (I : Inv X pins σ H s) : ∀ (ks : List NestedKey) (vs : List V) (us : List Value), NKats X.K H ks vs → Vals vs us → NestedAll s.heap ks us
  | [], vs, us, h, r => by cases (show vs = [] from h); cases r; exact .nil
  | k :: ks, vs, us, h, r => by
    obtain ⟨v, w, rfl, h1, h2⟩ := (show ∃ v w, vs = v :: w ∧ NKat X.K H k v ∧ NKats X.K H ks w from h)
    cases r with
    | cons r1 r2 => exact .cons (inv_nk I k v _ h1 r1) (inv_nks I ks w _ h2 r2)
end
end
mutual
theorem NKat.mono {K : PySem.W.Frag} {H H' : Hp} (e : ∀ a vs, SqT K H a vs → SqT K H' a vs) : ∀ (k : NestedKey) (v : V), NKat K H k v → NKat K H' k v
  | .none, v, h => h
  | .num i, v, h => h
  | .text x, v, h => h
  | .tup ks, v, h => by
    obtain ⟨a, vs, rfl, hT, hs⟩ := (show ∃ a vs, v = .ref a ∧ SqT K H a vs ∧ NKats K H ks vs from h)
    exact ⟨a, vs, rfl, e a vs hT, NKats.mono e ks vs hs⟩
theorem NKats.mono {K : PySem.W.Frag} {H H' : Hp} (e : ∀ a vs, SqT K H a vs → SqT K H' a vs) : ∀ (ks : List NestedKey) (vs : List V), NKats K H ks vs → NKats K H' ks vs
  | [], vs, h => h
  | k :: ks, vs, h => by
    obtain ⟨v, w, rfl, h1, h2⟩ := (show ∃ v w, vs = v :: w ∧ NKat K H k v ∧ NKats K H ks w from h)
    exact ⟨v, w, rfl, NKat.mono e k v h1, NKats.mono e ks w h2⟩
end
/-! ### the dict in the heap -/
noncomputable abbrev Ent := NestedKey × Addr × Value
noncomputable def entsN (P : Program) (w : World) (xs : List Ent) : Array DictEntry := (xs.map (entryOfKey (nestedKind P w))).toArray
noncomputable def DNo (P : Program) (w : World) (a : Addr) (xs : List Ent) : HO := .ext (dnF a (entsN P w xs))
/-- the object o at a is the dict xs -/
noncomputable def IsDN (P : Program) (w : World) (o : HO) (a : Addr) (xs : List Ent) : Prop := (o = DNo P w a xs ∧ (a == sysModules) = false) ∨ (o = .dK [] ∧ xs = [])
theorem IsDN.nx {P : Program} {w : World} {o : HO} {a : Addr} {xs : List Ent} (h : IsDN P w o a xs) : NX o := by
  rcases h with ⟨rfl, _⟩ | ⟨rfl, _⟩
  · exact nx_dn
  · exact nx_dK
structure NDat (P : Program) (w : World) (K : PySem.W.Frag) (H : Hp) (a : Addr) (xs : List Ent) (ws : List V) : Prop where
  ob : ∃ o, H a = some o ∧ IsDN P w o a xs
  sz : xs.length ≤ sizeLine
  nd : (xs.map (·.1)).Nodup
  ks : ∀ x ∈ xs, NKat K H x.1 (.ref x.2.1) ∧ x.1.depth ≤ 8
  vs : Vals ws (xs.map (·.2.2))
section
variable {X : Cx} {pins : List (Addr × Obj)} {σ : L2.St} {H : Hp} {s : Shared} {a b : Addr} {xs : List Ent} {ws : List V} {k : NestedKey}
theorem NDat.key (I : Inv X pins σ H s) (h1 : NKat X.K H k (.ref b)) (h2 : k.depth ≤ 8) : (nestedKind X.prog X.w).is s.heap k b := ⟨inv_nk I k _ _ h1 rfl, h2⟩
end
/-! ### the readings -/
section
variable {X : Cx} {pos : Pos}
theorem dn_ok {P : Program} {w : World} {H' : Hp} {h' : Heap} {a : Addr} {xs : List Ent} (h : h'.DictOfH (nestedKind P w) a xs) : ObjOk P w H' h' a (DNo P w a xs) := by
  obtain ⟨o, es, ep, e1, e2, e3, e4, _⟩ := h
  have : es = entsN P w xs := by unfold entsN; rw [← e4]
  subst this
  exact ⟨⟨o, ep, e1, e2, e3⟩, ⟨o, e1⟩, fun h1 h2 ⟨o, ep, e, r⟩ k => ⟨o, ep, k o e, r⟩⟩
end
end G
namespace G
open PySem PySem.Spec PyProof.Rows L2
/-! ### dicts whose keys are tuples, as data: .dic ks (keys ++ values) -/
section
variable {Γ : Gam} {fx : Fx} {E : WX} {X : Cx} {pos : Pos} {P : Program} {w : World}
/-! d[k] = v -/
/-! {k: v} -/
/-! len(d), list(d), dict(pairs) -/
noncomputable instance (ns : List NestedKey) : Decidable ns.Nodup := List.nodupDecidable ns
end
end G
namespace G
open PySem PySem.Spec PyProof.Rows L2
/-! ### while -/
end G
namespace G
open PySem PySem.Spec PyProof.Rows L2
open PySem.W (AllAlike Sortable dataLe EachIs)
/-! ### sorted(xs) of data of one shape -/
end G
namespace G
open PySem PySem.Spec PyProof.Rows L2
/-! ### dicts with tuple keys, typed; walk rules -/
structure NK {α : Type} (kf : α → D) (nk : α → NestedKey) (xs : List α) : Prop where
  key : ∀ x ∈ xs, tkey (kf x) = some (nk x)
  nd : (xs.map nk).Nodup
section
variable {α : Type} {kf vf : α → D} {nk : α → NestedKey} {xs : List α} {b neg : Bool} {i : Nat} {d dk : D} {S : Slots}
theorem NK.nil : NK kf nk [] := ⟨by simp, List.nodup_nil⟩
end
end G
namespace G
open PySem PySem.Spec PyProof.Rows L2
/-! ### defs that take no functions, called where functions of another level may be handed on -/
end G
namespace G
open PySem PySem.Spec PyProof.Rows L2
/-! ### y in x, an own __contains__ -/
end G
namespace G
open PySem PySem.Spec PyProof.Rows L2
/-! ### dicts whose keys are numbers and texts, filled item by item -/
/-- the dict kvs stands at a; an empty one may have been made for any keys -/
noncomputable def KDat (P : Program) (w : World) (K : PySem.W.Frag) (H : Hp) (a : Addr) (kvs : List (Key × V)) : Prop := H a = some (.dK kvs) ∨ (kvs = [] ∧ NDat P w K H a [] [])
theorem upd_own {H : Hp} {a : Addr} {o : HO} (h : H a = some o) : upd H a o = H := by
  funext b
  by_cases q : b = a
  · subst q; rw [upd_same, h]
  · rw [upd_ne q]
theorem upd_twice {H : Hp} {a : Addr} {o o' : HO} : upd (upd H a o) a o' = upd H a o' := by
  funext b
  by_cases q : b = a
  · subst q; rw [upd_same, upd_same]
  · rw [upd_ne q, upd_ne q, upd_ne q]
section
variable {X : Cx} {pins : List (Addr × Obj)} {σ : L2.St} {H : Hp} {s : Shared} {a : Addr} {kvs : List (Key × V)}
theorem KDat.back {s' : Shared} (I : Inv X pins σ H s) (h : KDat X.prog X.w X.K H a kvs) (J : Inv X pins σ (upd H a (.dK kvs)) s') : Inv X pins σ H s' := by
  rcases h with h | ⟨rfl, nd⟩
  · rw [upd_own h] at J; exact J
  · obtain ⟨o, ho, hn⟩ := nd.ob
    rcases hn with ⟨rfl, sm⟩ | ⟨rfl, _⟩
    · obtain ⟨_, _, vs, rel, ob, es, ep, e1, e2, e3, _, e4, _⟩ := dk_of J.hok upd_same
      cases rel
      have hA : es = #[] := by
        obtain ⟨l⟩ := es
        have hl : l = [] := by cases e4; rfl
        rw [hl]
      subst hA
      have K1 := d_write (h' := s'.heap) (t' := s'.toks) (ob := DNo X.prog X.w a []) J (by rw [upd_same]; exact True.intro) ⟨rfl, fun _ _ => rfl⟩ ⟨_, e1⟩ (dn_ok ⟨ob, #[], ep, e1, e2, e3, rfl, by simp, List.nodup_nil⟩)
      rw [upd_twice, upd_own ho] at K1
      exact K1
    · rw [upd_own ho] at J; exact J
end
/-! as data: .dic keys values -/
/-! d[k] = v, a key that is new -/
/-! the walk -/
end G
namespace G
open PySem PySem.Spec PyProof.Rows L2
/-! ### for x in a list that is lent: the list stays where it is -/
/-! the walk -/
end G
namespace G
open PySem PySem.Spec PyProof.Rows L2
/-! ### a call that may go two ways: by the class of its object -/
end G
namespace PySem.W
open PySem PySem.Calls PyProof.Rows Builtin
end PySem.W
namespace G
open PySem PySem.Spec PyProof.Rows L2
end G
namespace G
open PySem PySem.Spec PyProof.Rows L2
/-! ### raise X(..) from None while an exception is handled -/
end G
namespace G
open PySem PySem.Spec PyProof.Rows L2
open L2H (suiteX)
/-! ### the test of an except clause -/
/-! ### try: .. except T: a suite that may raise -/
end G
namespace G
open PySem PySem.Spec PyProof.Rows L2
/-! ### try: .. finally: .. -/
end G
namespace G
open PySem PySem.Spec PyProof.Rows
open PySem.SeqAt
open AutoSeq1 (wpAny_loadPart')
open MeetsSeq MeetsSeq2 MeetsSeq3 SeqRoads2
/-! ### (a, b) in rows, items with an own == -/
end G
namespace G
open PySem PySem.Spec PyProof.Rows L2
/-! ### data that its place tells -/
/-! ### == of items and of tuples of items -/
end G
namespace G
open PySem PySem.Spec PyProof.Rows L2
/-! ### dicts that stay empty -/
end G
namespace G
open PySem PySem.Spec PyProof.Rows L2
/-! ### the letters of a text -/
/-! ### the walk through try -/
end G
namespace G
open PySem PySem.Spec PyProof.Rows L2 PySem.Calls
/-! ### list(text) -/
end G
namespace G
open PySem PySem.Spec PyProof.Rows L2
/-! ### *a, b = a list -/
end G
namespace G
open PySem PySem.Spec PyProof.Rows
open PySem.SeqAt
open AutoSeq1 (wpAny_loadPart')
open MeetsSeq MeetsSeq2 MeetsSeq3 SeqRoads2
/-! ### rows == rows, items with an own == -/
end G
namespace G
open PySem PySem.Spec PyProof.Rows L2
end G
namespace G
open PySem PySem.Spec PyProof.Rows L2
end G
namespace G
open PySem PySem.Spec PyProof.Rows L2
end G
namespace G
open PySem PySem.Spec PyProof.Rows L2
/-! ### text.replace of written texts: a token must be out -/
section
variable {X : Cx} {st : Stmt} {rest : List Stmt} {e : Expr} {es : List Expr}
theorem PET.weak {t t' : TE} (h : PET X e t) (w : ∀ σ H Q, t' σ H Q → t σ H Q) : PET X e t' := fun pins s σ H Q h0 I q => h pins s σ H Q h0 I (w σ H Q q)
theorem PAT.of {t : TA} (h : PA X es t) : PAT X es t := fun pos pins s σ H Q _ I q => h.run pos pins s σ H Q I q
end
section
variable (Γ : Gam) (fx : Fx) (E : WX) (X : Cx)
noncomputable def GET (e : Expr) (g : M Pv) : Prop := PET X e (tG Γ fx E g)
noncomputable def GVT (e : Expr) (g : M D) : Prop := PET X e (tV Γ fx E g)
noncomputable def GPT (e : Expr) (g : M Pd) : Prop := PET X e (tP Γ fx E g)
noncomputable def GAT (es : List Expr) (g : M (List D)) : Prop := PAT X es (tVs Γ fx E g)
noncomputable def GST (st : Stmt) (g : M Fl) : Prop := PST X st (tS Γ fx E g)
noncomputable def GSsT (st : List Stmt) (g : M Fl) : Prop := PSsT X st (tS Γ fx E g)
end
section
variable {Γ : Gam} {fx : Fx} {E : WX} {X : Cx} {pos : Pos}
theorem GET.v {e : Expr} {g : M Pv} (h : GET Γ fx E X e g) : GVT Γ fx E X e (toV g) := by
  refine PET.weak h fun σ H Q ⟨S, F, Rl, q⟩ => ⟨S, F, Rl, ?_⟩
  refine Post.imp (Post.bind q) fun pv S' H' F' _ Rl' p v ok => ?_
  obtain ⟨d, S2, F2, R2, e2, r, k⟩ := give_post Rl' p ok
  exact k v r
theorem GVT.p {e : Expr} {g : M D} (h : GVT Γ fx E X e g) : GPT Γ fx E X e (pD g) :=
  PET.weak h fun σ H Q ⟨S, F, Rl, q⟩ => ⟨S, F, Rl, Post.imp (Post.bind q) fun d S' H' F' _ R' q' v r => Post.pure q' R' v r⟩
theorem GAT.of {es : List Expr} {g : M (List D)} (h : GA Γ fx E X es g) : GAT Γ fx E X es g := PAT.of h
theorem GST.of {st : Stmt} {g : M Fl} (h : GS Γ fx E X st g) : GST Γ fx E X st g := PST.of h
theorem GSsT.of {st : List Stmt} {g : M Fl} (h : GSs Γ fx E X st g) : GSsT Γ fx E X st g := PSsT.of h
/-! ### -x of any number -/
end
end G
namespace G
open PySem PySem.Spec PyProof.Rows L2
/-! ### nodes: objects that may be referred to from anywhere; they stand in slots behind the names -/
/-- what refers to the node j -/
noncomputable abbrev D.ptr (j : Nat) : D := .clo (j + 1) []
noncomputable def ghost (as : List Addr) : L2.St := as.map fun a => some (.ref a)
theorem ghost_len {as : List Addr} : (ghost as).length = as.length := List.length_map ..
theorem ghost_get {as : List Addr} {j : Nat} : (ghost as)[j]? = as[j]?.map fun a => some (.ref a) := List.getElem?_map
theorem ghost_app {as bs : List Addr} : ghost (as ++ bs) = ghost as ++ ghost bs := List.map_append
/-- a family of readings: data refer to nodes by their numbers -/
structure NodG (Γ : List Addr → Gam) : Prop where
  T : ∀ as bs, (Γ (as ++ bs)).T = (Γ as).T
  K : ∀ as bs, (Γ (as ++ bs)).K = (Γ as).K
  cl : ∀ as bs, (Γ (as ++ bs)).cl = (Γ as).cl
  xc : ∀ as bs, (Γ (as ++ bs)).xc = (Γ as).xc
  dict : ∀ as bs, (Γ (as ++ bs)).dict = (Γ as).dict
  clos : ∀ as bs n F a vs, (Γ as).clos n F a vs → (Γ (as ++ bs)).clos n F a vs
  ptr : ∀ as F j a vs, (Γ as).clos (j + 1) F a vs → as[j]? = some a
  ptr' : ∀ as F j a, as[j]? = some a → (Γ as).clos (j + 1) F a []
section
variable {Γ : List Addr → Gam} {as bs : List Addr} {F : Hp}
mutual
theorem NodG.rep (N : NodG Γ) : ∀ {d : D} {v : V}, Rep (Γ as) F d v → Rep (Γ (as ++ bs)) F d v
  | .non, _, h => h
  | .bl _, _, h => h
  | .int _, _, h => h
  | .str _, _, h => h
  | .tup _, _, ⟨a, vs, e1, h, r⟩ => ⟨a, vs, e1, by rw [N.K]; exact h, N.reps r⟩
  | .lst _, _, ⟨a, vs, e1, h, r⟩ => ⟨a, vs, e1, h, N.reps r⟩
  | .dic _ _, _, ⟨a, vs, e1, h, r⟩ => ⟨a, vs, e1, by rw [N.dict]; exact h, N.reps r⟩
  | .ins _ _ _, _, ⟨a, dx, l, e1, h, e2, r⟩ => ⟨a, dx, l, e1, by rw [N.cl]; exact h, e2, N.reps r⟩
  | .clo _ _, _, ⟨a, vs, e1, h, r⟩ => ⟨a, vs, e1, N.clos _ _ _ _ _ _ h, N.reps r⟩
  | .scr _, _, ⟨a, vs, e1, h, r⟩ => ⟨a, vs, e1, by rw [N.K]; exact h, N.reps r⟩
  | .cls _, v, h => by
    have h : v = .ref ((Γ as).cl _) := h
    show v = .ref ((Γ (as ++ bs)).cl _)
    rw [N.cl]; exact h
theorem NodG.reps (N : NodG Γ) : ∀ {ds : List D} {vs : List V}, Reps (Γ as) F ds vs → Reps (Γ (as ++ bs)) F ds vs
  | [], _, h => h
  | _ :: _, _, ⟨v, r, e1, h, t⟩ => ⟨v, r, e1, N.rep h, N.reps t⟩
end
theorem NodG.own (N : NodG Γ) {H : Hp} {o : Ov} {a : Addr} (h : OwnAt (Γ as) F H o a) : OwnAt (Γ (as ++ bs)) F H o a := by
  cases o with
  | lst ds => obtain ⟨vs, h1, r⟩ := h; exact ⟨vs, h1, N.reps r⟩
  | ins c fs ds => obtain ⟨dx, l, h1, e2, r⟩ := h; exact ⟨dx, l, by rw [N.cl]; exact h1, e2, N.reps r⟩
  | dic ks ds => obtain ⟨u, vs, h1, d, r⟩ := h; exact ⟨u, vs, h1, by rw [N.dict]; exact d, N.reps r⟩
/-- no functions among the slots -/
noncomputable def noFs (S : Slots) : Bool := S.all fun s => match s with
  | .cb _ => false
  | _ => true
theorem noFs_at {S : Slots} (h : noFs S = true) {i : Nat} {f : CF} : S[i]? ≠ some (.cb f) := fun e => by
  have := List.all_eq_true.mp h _ (List.mem_of_getElem? e)
  cases this
theorem NodG.rel (N : NodG Γ) {fx : Fx} {S : Slots} {σ : L2.St} {H : Hp} (hS : noFs S = true) (R : Rel (Γ as) fx S σ H F) : Rel (Γ (as ++ bs)) fx S σ H F where
  bg := { R.bg with tab := by rw [N.T]; exact R.bg.tab }
  cb := fun i f e => absurd e (noFs_at hS)
  tnx := R.tnx
  fnx := R.fnx
  len := R.len
  val := fun i d e => by obtain ⟨v, h1, h2⟩ := R.val i d e; exact ⟨v, h1, N.rep h2⟩
  own := fun i o b e => by obtain ⟨a, h1, h2, h3, h4⟩ := R.own i o b e; exact ⟨a, h1, h2, N.own h3, h4⟩
  inj := R.inj
  sub := R.sub
  sub0 := R.sub0
  new := R.new
  frm := R.frm
  wth := R.wth
  tmp := R.tmp
end
/-! ### the state with nodes -/
structure RelH (Γ : List Addr → Gam) (fx : Fx) (N : Nat) (as : List Addr) (S : Slots) (σ : L2.St) (H F : Hp) : Prop where
  len : σ.length = N
  rel : Rel (Γ as) fx S (σ ++ ghost as) H F
  nod : ∀ j, j < as.length → ∃ o b, S[N + j]? = some (.own o b)
section
variable {Γ : List Addr → Gam} {fx : Fx} {N : Nat} {as : List Addr} {S : Slots} {σ : L2.St} {H F : Hp}
theorem RelH.lenS (R : RelH Γ fx N as S σ H F) : S.length = N + as.length := by
  rw [R.rel.len, List.length_append, ghost_len, R.len]
theorem RelH.at (R : RelH Γ fx N as S σ H F) {j : Nat} {a : Addr} (h : as[j]? = some a) : (σ ++ ghost as)[N + j]? = some (some (.ref a)) := by
  rw [List.getElem?_append_right (by rw [R.len]; omega), R.len, Nat.add_sub_cancel_left, ghost_get, h]; rfl
theorem ghost_lo {σ : L2.St} {as : List Addr} {i : Nat} (h : i < σ.length) : (σ ++ ghost as)[i]? = σ[i]? := List.getElem?_append_left h
theorem RelH.node (R : RelH Γ fx N as S σ H F) {j : Nat} {a : Addr} (h : as[j]? = some a) : ∃ o b u, S[N + j]? = some (.own o b) ∧ F a = none ∧ OwnAt (Γ as) F H o a ∧ fx.T a = none ∧ fx.has (N + j) a b ∧ H a = some u ∧ NX u := by
  obtain ⟨o, b, e⟩ := R.nod j (List.getElem?_eq_some_iff.mp h).1
  obtain ⟨a', h1, h2, h3, h4, h5⟩ := R.rel.own _ o b e
  rw [R.at h] at h1; cases h1
  obtain ⟨u, hu, nu⟩ := h3.nx
  exact ⟨o, b, u, e, h2, h3, h4, h5, hu, nu⟩
theorem RelH.inj (R : RelH Γ fx N as S σ H F) {i j : Nat} {a : Addr} (h1 : as[i]? = some a) (h2 : as[j]? = some a) : i = j := by
  obtain ⟨o, b, _, e, _⟩ := R.node h1
  obtain ⟨o', b', _, e', _⟩ := R.node h2
  have := R.rel.inj _ _ _ _ _ _ a e e' (R.at h1) (R.at h2)
  omega
/-- the nodes laid aside -/
noncomputable def nodT (T : Hp) (as : List Addr) (H : Hp) : Hp := fun a => match T a with
  | some o => some o
  | none => if a ∈ as then H a else none
theorem RelH.there (R : RelH Γ fx N as S σ H F) {a : Addr} (h : a ∈ as) : ∃ j : Nat, as[j]? = some a := by
  obtain ⟨j, hj, e⟩ := List.mem_iff_getElem.mp h
  exact ⟨j, by rw [List.getElem?_eq_getElem hj, e]⟩
/-- .. and with them again -/
theorem RelH.up (R : RelH Γ fx N as S σ H F) {S' : Slots} {σ' : L2.St} {H' F' : Hp} (R' : Rel (Γ as) (fx.setT (nodT fx.T as H)) S' σ' H' F') (e0 : Ext F F') (hl : S'.length = N) : RelH Γ fx N as (S' ++ S.drop N) σ' H' F' := by
  have hσ : σ'.length = N := by rw [← R'.len]; exact hl
  have hS : ∀ {i : Nat} {sv : Sv}, (S' ++ S.drop N)[i]? = some sv → (i < N ∧ S'[i]? = some sv) ∨ ∃ j a, i = N + j ∧ S[N + j]? = some sv ∧ as[j]? = some a := fun {i sv} e => by
    by_cases hi : i < N
    · rw [List.getElem?_append_left (by rw [hl]; exact hi)] at e; exact .inl ⟨hi, e⟩
    · rw [List.getElem?_append_right (by rw [hl]; omega), hl, List.getElem?_drop] at e
      have hlt := (List.getElem?_eq_some_iff.mp e).1
      rw [R.lenS] at hlt
      exact .inr ⟨i - N, as[i - N], by omega, e, List.getElem?_eq_getElem (by omega)⟩
  have gs : ∀ {i : Nat}, i < N → (σ' ++ ghost as)[i]? = σ'[i]? := fun {i} h => ghost_lo (by rw [hσ]; exact h)
  have gn : ∀ {j : Nat} {a : Addr}, as[j]? = some a → (σ' ++ ghost as)[N + j]? = some (some (.ref a)) := fun {j a} h => by
    rw [List.getElem?_append_right (by rw [hσ]; omega), hσ, Nat.add_sub_cancel_left, ghost_get, h]; rfl
  have tn : ∀ {j : Nat} {a : Addr}, as[j]? = some a → ∃ u, nodT fx.T as H a = some u ∧ H a = some u := fun {j a} h => by
    obtain ⟨_, _, u, _, _, _, hT, _, hu, _⟩ := R.node h
    refine ⟨u, ?_, hu⟩
    unfold nodT
    simp only [hT]
    rw [if_pos (List.mem_of_getElem? h), hu]
  refine ⟨hσ, ?_, fun j hj => ?_⟩
  · exact {
      bg := R'.bg
      cb := fun i f e => by
        rcases hS e with ⟨hi, e⟩ | ⟨j, a, rfl, e, hj⟩
        · rw [gs hi]; exact R'.cb i f e
        · obtain ⟨o, b, e'⟩ := R.nod j (List.getElem?_eq_some_iff.mp hj).1
          rw [e] at e'; cases e'
      tnx := R.rel.tnx
      fnx := R'.fnx
      len := by rw [List.length_append, List.length_append, hl, hσ, ghost_len, List.length_drop, R.lenS]; omega
      val := fun i d e => by
        rcases hS e with ⟨hi, e⟩ | ⟨j, a, rfl, e, hj⟩
        · rw [gs hi]; exact R'.val i d e
        · obtain ⟨o, b, e'⟩ := R.nod j (List.getElem?_eq_some_iff.mp hj).1
          rw [e] at e'; cases e'
      own := fun i o b e => by
        rcases hS e with ⟨hi, e⟩ | ⟨j, a, rfl, e, hj⟩
        · obtain ⟨a, h1, h2, h3, h4, h5⟩ := R'.own i o b e
          have h4 : nodT fx.T as H a = none := h4
          refine ⟨a, by rw [gs hi]; exact h1, h2, h3, ?_, h5⟩
          unfold nodT at h4
          cases q : fx.T a with
          | none => rfl
          | some o' => simp only [q] at h4; cases h4
        · obtain ⟨o', b', u, e', _, h3, h4, h5, _⟩ := R.node hj
          rw [e] at e'; cases e'
          obtain ⟨u', hu, hu0⟩ := tn hj
          obtain ⟨t1, t2⟩ := R'.tmp a u' hu
          refine ⟨a, gn hj, t2, h3.mono e0 fun w hw => ?_, h4, h5⟩
          rw [hu0] at hw; cases hw
          exact t1
      inj := fun i j o1 o2 b1 b2 c e1 e2 e3 e4 => by
        rcases hS e1 with ⟨hi, p1⟩ | ⟨i', a1, rfl, p1, ha1⟩
        · rcases hS e2 with ⟨hj, p2⟩ | ⟨j', a2, rfl, p2, ha2⟩
          · rw [gs hi] at e3
            rw [gs hj] at e4
            exact R'.inj i j o1 o2 b1 b2 c p1 p2 e3 e4
          · rw [gs hi] at e3
            rw [gn ha2] at e4; cases e4
            obtain ⟨a, h1, _, _, h4, _⟩ := R'.own i o1 b1 p1
            rw [e3] at h1; cases h1
            obtain ⟨u, hu, _⟩ := tn ha2
            have h4 : nodT fx.T as H _ = none := h4
            rw [hu] at h4; cases h4
        · rw [gn ha1] at e3; cases e3
          rcases hS e2 with ⟨hj, p2⟩ | ⟨j', a2, rfl, p2, ha2⟩
          · rw [gs hj] at e4
            obtain ⟨a, h1, _, _, h4, _⟩ := R'.own j o2 b2 p2
            rw [e4] at h1; cases h1
            obtain ⟨u, hu, _⟩ := tn ha1
            have h4 : nodT fx.T as H _ = none := h4
            rw [hu] at h4; cases h4
          · rw [gn ha2] at e4; cases e4
            rw [R.inj ha1 ha2]
      sub := R'.sub
      sub0 := R'.sub0
      new := R'.new
      frm := R'.frm
      wth := R'.wth
      tmp := fun a o q => R'.tmp a o (by show nodT fx.T as H a = some o; unfold nodT; simp only [q]) }
  · obtain ⟨o, b, e⟩ := R.nod j hj
    exact ⟨o, b, by rw [List.getElem?_append_right (by rw [hl]; omega), hl, List.getElem?_drop]; rw [show N + (N + j - N) = N + j by omega]; exact e⟩
end
end G
namespace G
open PySem PySem.Spec PyProof.Rows L2
/-! ### readings over the state with nodes -/
noncomputable def PvLo (N : Nat) : Pv → Prop
  | .sl i => i < N
  | _ => True
section
variable (Γ : List Addr → Gam) (fx : Fx) (E : WX) (N : Nat)
noncomputable def PostH {α : Type} (σ : L2.St) (as : List Addr) (F : Hp) (r : R (α × Slots)) (k : α → List Addr → Slots → Hp → Hp → Prop) : Prop :=
  match r with
  | .ok (a, S') => ∀ bs H' F', Ext F F' → RelH Γ fx N (as ++ bs) S' σ H' F' → k a (as ++ bs) S' H' F'
  | .exc x S' => ∀ cls d bs H' F', Ext F F' → RelH Γ fx N (as ++ bs) S' σ H' F' → XRep (Γ (as ++ bs)) F' H' x cls d → E cls d σ H'
  | .bad => False
noncomputable def PvH (as : List Addr) (S : Slots) (σ : L2.St) (H F : Hp) (pv : Pv) (v : V) : Prop := PvOk (Γ as) fx S (σ ++ ghost as) H F pv v ∧ PvLo N pv
noncomputable def hG (g : M Pv) : TE := fun σ H Q => ∃ as S F, RelH Γ fx N as S σ H F ∧ PostH Γ fx E N σ as F (g S) fun pv as' S' H' F' => ∀ v, PvH Γ fx N as' S' σ H' F' pv v → Q v H'
noncomputable def hV (g : M D) : TE := fun σ H Q => ∃ as S F, RelH Γ fx N as S σ H F ∧ PostH Γ fx E N σ as F (g S) fun d as' S' H' F' => ∀ v, Rep (Γ as') F' d v → Q v H'
noncomputable def hT (g : M Bool) : TT := fun σ H Q => ∃ as S F, RelH Γ fx N as S σ H F ∧ PostH Γ fx E N σ as F (g S) fun b as' S' H' F' => Q b H'
noncomputable def hP (g : M Pd) : TE := fun σ H Q => ∃ as S F, RelH Γ fx N as S σ H F ∧ PostH Γ fx E N σ as F (g S) fun p as' S' H' F' => ∀ v, PdOk (Γ as') (σ ++ ghost as') F' p v → Q v H'
noncomputable def PostSH (as : List Addr) (F : Hp) (r : R (Fl × Slots)) (D : Ends) : Prop :=
  match r with
  | .ok (.nx, S') => ∀ σ' bs H' F', Ext F F' → RelH Γ fx N (as ++ bs) S' σ' H' F' → D.nx σ' H'
  | .ok (.bk, S') => ∀ σ' bs H' F', Ext F F' → RelH Γ fx N (as ++ bs) S' σ' H' F' → D.bk σ' H'
  | .ok (.ct, S') => ∀ σ' bs H' F', Ext F F' → RelH Γ fx N (as ++ bs) S' σ' H' F' → D.ct σ' H'
  | .ok (.rt pv, S') => ∀ σ' bs H' F' v, Ext F F' → RelH Γ fx N (as ++ bs) S' σ' H' F' → PvH Γ fx N (as ++ bs) S' σ' H' F' pv v → D.rt v H'
  | .exc x S' => ∀ σ' cls d bs H' F', Ext F F' → RelH Γ fx N (as ++ bs) S' σ' H' F' → XRep (Γ (as ++ bs)) F' H' x cls d → E cls d σ' H'
  | .bad => False
noncomputable def hS (g : M Fl) : TS := fun D σ H => ∃ as S F, RelH Γ fx N as S σ H F ∧ PostSH Γ fx E N as F (g S) D
variable (X : Cx)
noncomputable def HE (e : Expr) (g : M Pv) : Prop := PE X e (hG Γ fx E N g)
noncomputable def HV (e : Expr) (g : M D) : Prop := PE X e (hV Γ fx E N g)
noncomputable def HT (e : Expr) (g : M Bool) : Prop := PT X e (hT Γ fx E N g)
noncomputable def HW (e : Expr) (g : M Bool) : Prop := PW X e (hT Γ fx E N g)
noncomputable def HP (e : Expr) (g : M Pd) : Prop := PE X e (hP Γ fx E N g)
end
section
variable {Γ : List Addr → Gam} {fx : Fx} {E : WX} {N : Nat} {σ : L2.St} {as bs : List Addr} {F F' : Hp}
theorem PostH.imp {α : Type} {r : R (α × Slots)} {k k' : α → List Addr → Slots → Hp → Hp → Prop} (h : PostH Γ fx E N σ as F r k) (f : ∀ a bs S' H' F', Ext F F' → RelH Γ fx N (as ++ bs) S' σ H' F' → k a (as ++ bs) S' H' F' → k' a (as ++ bs) S' H' F') : PostH Γ fx E N σ as F r k' := by
  cases r with
  | ok p => obtain ⟨a, S'⟩ := p; exact fun bs H' F' e Rl => f a bs S' H' F' e Rl (h bs H' F' e Rl)
  | exc x S' => exact h
  | bad => exact h
theorem PostH.mono {α : Type} {r : R (α × Slots)} {k : α → List Addr → Slots → Hp → Hp → Prop} (e : Ext F F') (h : PostH Γ fx E N σ as F r k) : PostH Γ fx E N σ (as ++ bs) F' r k := by
  cases r with
  | ok p =>
    obtain ⟨a, S'⟩ := p
    intro cs H1 F1 e1 Rl
    rw [List.append_assoc] at Rl ⊢
    exact h _ H1 F1 (e.trans e1) Rl
  | exc x S' =>
    intro cls d cs H1 F1 e1 Rl xr
    rw [List.append_assoc] at Rl xr
    exact h cls d _ H1 F1 (e.trans e1) Rl xr
  | bad => exact h
theorem PostH.bind {α β : Type} {g : M α} {f : α → M β} {S : Slots} {k : β → List Addr → Slots → Hp → Hp → Prop} (h : PostH Γ fx E N σ as F (M.bind g f S) k) :
    PostH Γ fx E N σ as F (g S) fun a as' S' H' F' => PostH Γ fx E N σ as' F' (f a S') k := by
  unfold M.bind at h
  cases e : g S with
  | ok p =>
    obtain ⟨a, S'⟩ := p
    rw [e] at h
    exact fun bs H' F' e1 _ => PostH.mono e1 h
  | exc x S' => rw [e] at h; exact h
  | bad => rw [e] at h; exact h
theorem RelH.nil {S : Slots} {H : Hp} (R : RelH Γ fx N as S σ H F) : RelH Γ fx N (as ++ []) S σ H F := by rw [List.append_nil]; exact R
theorem PostH.pure {α : Type} {a : α} {S : Slots} {H : Hp} {k : α → List Addr → Slots → Hp → Hp → Prop} (h : PostH Γ fx E N σ as F (M.pure a S) k) (Rl : RelH Γ fx N as S σ H F) : k a as S H F := by
  have z := h [] H F (Ext.refl F) Rl.nil
  rw [List.append_nil] at z
  exact z
theorem PostH.lift {α : Type} {a : Option α} {S : Slots} {H : Hp} {k : α → List Addr → Slots → Hp → Hp → Prop} (h : PostH Γ fx E N σ as F (M.lift a S) k) (Rl : RelH Γ fx N as S σ H F) : ∃ x, a = some x ∧ ∀ bs H' F', Ext F F' → RelH Γ fx N (as ++ bs) S σ H' F' → k x (as ++ bs) S H' F' := by
  cases a with
  | none => exact h.elim
  | some x => exact ⟨x, rfl, h⟩
end
/-! ### what knows no nodes -/
noncomputable def up {α : Type} (N : Nat) (g : M α) : M α := fun S => match g (S.take N) with
  | .ok (a, S') => if S'.length = N then .ok (a, S' ++ S.drop N) else .bad
  | .exc x S' => if S'.length = N then .exc x (S' ++ S.drop N) else .bad
  | .bad => .bad
section
variable {Γ : List Addr → Gam} {fx : Fx} {E : WX} {N : Nat} {X : Cx}
theorem PE.any {ι : Type} {e : Expr} {t : ι → TE} (h : ∀ i, PE X e (t i)) : PE X e fun σ H Q => ∃ i, t i σ H Q := ⟨fun pins s σ H Q I ⟨i, q⟩ => (h i).run pins s σ H Q I q⟩
theorem PT.any {ι : Type} {e : Expr} {t : ι → TT} (h : ∀ i, PT X e (t i)) : PT X e fun σ H Q => ∃ i, t i σ H Q := ⟨fun pins s σ H Q I ⟨i, q⟩ => (h i).run pins s σ H Q I q⟩
theorem PA.any {ι : Type} {e : List Expr} {t : ι → TA} (h : ∀ i, PA X e (t i)) : PA X e fun σ H Q => ∃ i, t i σ H Q := ⟨fun pos pins s σ H Q I ⟨i, q⟩ => (h i).run pos pins s σ H Q I q⟩
theorem PK.any {ι : Type} {e : List Keyword} {t : ι → TA} (h : ∀ i, PK X e (t i)) : PK X e fun σ H Q => ∃ i, t i σ H Q := ⟨fun pos pins s σ H Q I ⟨i, q⟩ => (h i).run pos pins s σ H Q I q⟩
theorem PS.any {ι : Type} {e : Stmt} {t : ι → TS} (h : ∀ i, PS X e (t i)) : PS X e fun D σ H => ∃ i, t i D σ H := ⟨fun pins s σ H D I ⟨i, q⟩ => (h i).run pins s σ H D I q⟩
end
end G
namespace G
open PySem PySem.Spec PyProof.Rows L2
section
variable {Γ : List Addr → Gam} {fx : Fx} {E : WX} {N : Nat} {X : Cx} {pos : Pos}
/-! ### statements over the state with nodes -/
theorem PostSH.mono {as bs : List Addr} {F F' : Hp} {r : R (Fl × Slots)} {D : Ends} (e : Ext F F') (h : PostSH Γ fx E N as F r D) : PostSH Γ fx E N (as ++ bs) F' r D := by
  cases r with
  | ok p =>
    obtain ⟨fl, S'⟩ := p
    cases fl with
    | nx => exact fun σ' cs H1 F1 e1 Rl => h σ' _ H1 F1 (e.trans e1) (by rw [List.append_assoc] at Rl; exact Rl)
    | bk => exact fun σ' cs H1 F1 e1 Rl => h σ' _ H1 F1 (e.trans e1) (by rw [List.append_assoc] at Rl; exact Rl)
    | ct => exact fun σ' cs H1 F1 e1 Rl => h σ' _ H1 F1 (e.trans e1) (by rw [List.append_assoc] at Rl; exact Rl)
    | rt pv => exact fun σ' cs H1 F1 v e1 Rl ok => h σ' _ H1 F1 v (e.trans e1) (by rw [List.append_assoc] at Rl; exact Rl) (by rw [List.append_assoc] at ok; exact ok)
  | exc x S' => exact fun σ' cls d cs H1 F1 e1 Rl xr => h σ' cls d _ H1 F1 (e.trans e1) (by rw [List.append_assoc] at Rl; exact Rl) (by rw [List.append_assoc] at xr; exact xr)
  | bad => exact h
theorem PostSH.nx {as : List Addr} {F H : Hp} {σ : L2.St} {S : Slots} {D : Ends} (h : PostSH Γ fx E N as F (.ok (.nx, S)) D) (R : RelH Γ fx N as S σ H F) : D.nx σ H := h σ [] H F (Ext.refl F) R.nil
/-! ### a name is set -/
theorem RelH.keep {as : List Addr} {S S' : Slots} {σ σ' : L2.St} {H H' F F' : Hp} (R : RelH Γ fx N as S σ H F) (hl : σ'.length = N) (R' : Rel (Γ as) fx S' (σ' ++ ghost as) H' F') (hn : ∀ j, N ≤ j → S'[j]? = S[j]?) : RelH Γ fx N as S' σ' H' F' :=
  ⟨hl, R', fun j hj => by obtain ⟨o, b, e⟩ := R.nod j hj; exact ⟨o, b, by rw [hn _ (by omega)]; exact e⟩⟩
theorem ghost_set {σ : L2.St} {as : List Addr} {i : Nat} {x : Option V} (h : i < σ.length) : (σ ++ ghost as).set i x = σ.set i x ++ ghost as := List.set_append_left _ _ h
theorem RelH.setVal {as : List Addr} {S : Slots} {σ : L2.St} {H F : Hp} (R : RelH Γ fx N as S σ H F) {i : Nat} (hi : i < N) {d : D} {v : V} (h : Rep (Γ as) F d v) : RelH Γ fx N as (S.set i (.val d)) (σ.set i (some v)) H F :=
  R.keep (by rw [List.length_set]; exact R.len) (by rw [← ghost_set (by rw [R.len]; exact hi)]; exact R.rel.setVal h) fun j hj => List.getElem?_set_ne (by omega)
/-! ### values, tests -/
theorem RelH.giveNew {as : List Addr} {S : Slots} {σ : L2.St} {H F : Hp} {o : Ov} {v : V} (R : RelH Γ fx N as S σ H F) (h : PvH Γ fx N as S σ H F (.fr o) v) : ∃ F', Ext F F' ∧ RelH Γ fx N as S σ H F' ∧ Rep (Γ as) F' o.d v := by
  obtain ⟨F', e, R', r⟩ := R.rel.giveNew h.1
  exact ⟨F', e, R.keep R.len R' fun _ _ => rfl, r⟩
theorem give_postH {as : List Addr} {S : Slots} {σ : L2.St} {H F : Hp} {pv : Pv} {v : V} {k : D → List Addr → Slots → Hp → Hp → Prop} (R : RelH Γ fx N as S σ H F) (h : PostH Γ fx E N σ as F (pv.give S) k) (p : PvH Γ fx N as S σ H F pv v) : ∃ d S' F', RelH Γ fx N as S' σ H F' ∧ Ext F F' ∧ Rep (Γ as) F' d v ∧ k d as S' H F' := by
  have fin : ∀ {d S' F'}, PostH Γ fx E N σ as F (.ok (d, S')) k → RelH Γ fx N as S' σ H F' → Ext F F' → k d as S' H F' := fun {d S' F'} h R' ex => by
    have z := h [] H F' ex R'.nil
    rw [List.append_nil] at z
    exact z
  cases pv with
  | dat d => exact ⟨d, S, F, R, Ext.refl F, p.1, fin h R (Ext.refl F)⟩
  | fr o =>
    obtain ⟨F', e, R', r⟩ := R.giveNew p
    exact ⟨o.d, S, F', R', e, r, fin h R' e⟩
  | sl i =>
    obtain ⟨⟨e, o, b0, eo⟩, hi⟩ := p
    have hi : i < N := hi
    have h' : PostH Γ fx E N σ as F (match S[i]? with | some (.own o _) => G.R.ok (o.d, S.set i (.val o.d)) | some (.val d) => .ok (d, S) | _ => .bad) k := h
    rw [eo] at h'
    obtain ⟨F', a, e1, ex, R', r⟩ := R.rel.giveSlot eo
    rw [e] at e1
    cases e1
    have R2 : RelH Γ fx N as (S.set i (.val o.d)) σ H F' := R.keep R.len R' fun k hk => List.getElem?_set_ne (by omega)
    exact ⟨o.d, _, F', R2, ex, r, fin h' R2 ex⟩
theorem HE.v {e : Expr} {g : M Pv} (h : HE Γ fx E N X e g) : HV Γ fx E N X e (toV g) := by
  refine PE.weak h fun σ H Q ⟨as, S, F, R, q⟩ => ⟨as, S, F, R, ?_⟩
  refine PostH.imp (PostH.bind q) fun pv bs S' H' F' _ R' p v ok => ?_
  obtain ⟨d, S2, F2, R2, e2, r, k⟩ := give_postH R' p ok
  exact k v r
theorem HV.e {e : Expr} {g : M D} (h : HV Γ fx E N X e g) : HE Γ fx E N X e (M.bind g fun d => M.pure (.dat d)) := by
  refine PE.weak h fun σ H Q ⟨as, S, F, R, q⟩ => ⟨as, S, F, R, ?_⟩
  refine PostH.imp (PostH.bind q) fun d bs S' H' F' _ R' p v ok => ?_
  exact PostH.pure p R' v ⟨ok, trivial⟩
theorem HW.t {e : Expr} {g : M Bool} (h : HW Γ fx E N X e g) : HT Γ fx E N X e g := PW.pt h
/-! ### lists of expressions, displays -/
/-! ### new nodes -/
theorem RelH.push {as : List Addr} {S : Slots} {σ : L2.St} {H F : Hp} {o : Ov} {v : V} (nd : NodG Γ) (R : RelH Γ fx N as S σ H F) (hS : noFs S = true) (h : PvH Γ fx N as S σ H F (.fr o) v) : ∃ a, v = .ref a ∧ RelH Γ fx N (as ++ [a]) (S ++ [.own o false]) σ H F := by
  obtain ⟨⟨a, rfl, h1, h2, h3, h4, h5⟩, _⟩ := h
  refine ⟨a, rfl, R.len, ?_, fun j hj => ?_⟩
  · have R1 := nd.rel (bs := [a]) hS R.rel
    have R2 := R1.push h1 (nd.own h2) h3 h4 h5
    rw [ghost_app, ← List.append_assoc]
    exact R2
  · rw [List.length_append] at hj
    by_cases q : j < as.length
    · obtain ⟨o', b, e⟩ := R.nod j q
      exact ⟨o', b, by rw [List.getElem?_append_left (List.getElem?_eq_some_iff.mp e).1]; exact e⟩
    · have : j = as.length := by have : j < as.length + 1 := hj; omega
      subst this
      exact ⟨o, false, by rw [List.getElem?_append_right (by rw [R.lenS]; omega), R.lenS, Nat.sub_self]; rfl⟩
end
end G
namespace G
open PySem PySem.Spec PyProof.Rows L2
section
variable {Γ : List Addr → Gam} {fx : Fx} {E : WX} {N : Nat} {X : Cx} {pos : Pos}
/-! ### targets, for -/
noncomputable def PostTH (Γ : List Addr → Gam) (fx : Fx) (N : Nat) (as : List Addr) (F : Hp) (r : R (Unit × Slots)) (Q : L2.St → Hp → Prop) : Prop :=
  match r with
  | .ok (_, S') => ∀ σ' bs H' F', Ext F F' → RelH Γ fx N (as ++ bs) S' σ' H' F' → Q σ' H'
  | _ => False
theorem PG.any {ι : Type} {e : Expr} {t : ι → TG} (h : ∀ i, PG X e (t i)) : PG X e fun v σ H Q => ∃ i, t i v σ H Q := ⟨fun pins s σ H v u Q I r ⟨i, q⟩ => (h i).run pins s σ H v u Q I r q⟩
theorem PostTH.nx {as : List Addr} {F : Hp} {g : M Unit} {S : Slots} {D : Ends} (h : PostSH Γ fx E N as F (M.bind g (fun _ => M.pure Fl.nx) S) D) (hg : ∀ x S', g S ≠ .exc x S') : PostTH Γ fx N as F (g S) D.nx := by
  unfold M.bind at h
  cases e : g S with
  | ok p => obtain ⟨a, S'⟩ := p; rw [e] at h; exact fun σ' bs H' F' e1 Rl => h σ' bs H' F' e1 Rl
  | exc x S' => exact absurd e (hg x S')
  | bad => rw [e] at h; exact h
theorem PI.any {ι : Type} {tg e : Expr} {t : ι → TI} (h : ∀ i, PI X tg e (t i)) : PI X tg e fun σ H Q => ∃ i, t i σ H Q := ⟨fun pins s σ H Q I ⟨i, q⟩ => (h i).run pins s σ H Q I q⟩
/-! ### arguments: data, nodes -/
/-! ### calls of what knows no nodes: a node is lent as an object of its own -/
end
end G
namespace G
open PySem PySem.Spec PyProof.Rows L2
section
variable {Γ : List Addr → Gam} {fx : Fx} {E : WX} {N : Nat} {X : Cx} {pos : Pos}
/-! ### a, b = x, [..] over the state with nodes -/
theorem RelH.aside {as : List Addr} {S : Slots} {σ : L2.St} {H F : Hp} {a : Addr} {o : HO} (R : RelH Γ fx N as S σ H F) (hH : H a = some o) (hF : F a = none) (hn : ∀ (i : Nat) (o' : Ov) (b : Bool), S[i]? = some (.own o' b) → (σ ++ ghost as)[i]? ≠ some (some (.ref a))) (hx : NX o) : RelH Γ (fx.aside a o) N as S σ H F :=
  ⟨R.len, R.rel.aside hH hF hn, R.nod⟩
theorem RelH.unaside {as : List Addr} {S : Slots} {σ : L2.St} {H F : Hp} {a : Addr} {o : HO} (R : RelH Γ (fx.aside a o) N as S σ H F) (hT : fx.T a = none) : RelH Γ fx N as S σ H F := ⟨R.len, R.rel.unaside hT, R.nod⟩
theorem PostH.aside {α : Type} {σ : L2.St} {as : List Addr} {F : Hp} {r : R (α × Slots)} {k : α → List Addr → Slots → Hp → Hp → Prop} {a : Addr} {w : HO} (h : PostH Γ fx E N σ as F r k) (hT : fx.T a = none) : PostH Γ (fx.aside a w) E N σ as F r k := by
  cases r with
  | ok x => exact fun bs H' F' e R => h bs H' F' e (R.unaside hT)
  | exc x S' => exact fun cls d bs H' F' e R => h cls d bs H' F' e (R.unaside hT)
  | bad => exact h
/-! ### operands -/
theorem HV.p {e : Expr} {g : M D} (h : HV Γ fx E N X e g) : HP Γ fx E N X e (pD g) :=
  PE.weak h fun σ H Q ⟨as, S, F, R, q⟩ => ⟨as, S, F, R, PostH.imp (PostH.bind q) fun d bs S' H' F' _ R' q' v r => PostH.pure q' R' v r⟩
/-! ### methods of defs -/
/-! ### methods of lists -/
end
end G
namespace G
open PySem PySem.Spec PyProof.Rows L2
end G
namespace G
open PySem PySem.Spec PyProof.Rows L2
/-! ### the readings of a law with nodes -/
/-! ### the walk over the state with nodes -/
noncomputable def SP (n : Nat) (S : Slots) (k : Slots → Slots → Prop) : Prop := k (S.take n) (S.drop n)
section
variable {α : Type} {S : Slots} {N : Nat}
/-- a node by what refers to it -/
noncomputable def NdK (N : Nat) (S : Slots) (d : D) (k : Nat → Ov → Bool → Slots → Slots → Prop) : Prop := SP N S fun l r => ∃ j o b, l.length = N ∧ d = .ptr j ∧ r[j]? = some (.own o b) ∧ k j o b l r
theorem NdK.mk {d : D} {k : Nat → Ov → Bool → Slots → Slots → Prop} {l r : Slots} {j : Nat} {o : Ov} {b : Bool} (h0 : l.length = N) (h1 : d = .ptr j) (h2 : r[j]? = some (.own o b)) (h : k j o b l r) : ∃ j o b, l.length = N ∧ d = .ptr j ∧ r[j]? = some (.own o b) ∧ k j o b l r := ⟨j, o, b, h0, h1, h2, h⟩
end
end G
namespace G
open PySem PySem.Spec PyProof.Rows L2
/-! ### defs that are handed all nodes -/
structure ArgsH (Γ : List Addr → Gam) (as : List Addr) (ds : List D) (os : List Ov) (vs : List V) (H F : Hp) : Prop where
  cbx : ∃ C, Bg (Γ as) C H H
  fnx : ∀ a o, F a = some o → NX o
  sub : Ext F H
  val : Reps (Γ as) F ds vs
  len : os.length = as.length
  nod : ∀ (j : Nat) (a : Addr) (o : Ov), as[j]? = some a → os[j]? = some o → F a = none ∧ OwnAt (Γ as) F H o a
  nd : as.Nodup
structure AfterH (Γ : List Addr → Gam) (as : List Addr) (H F : Hp) (as' : List Addr) (os' : List Ov) (H' F' : Hp) : Prop where
  pre : ∃ bs, as' = as ++ bs
  ext : Ext F F'
  sub : Ext F' H'
  new : ∀ a o, F' a = some o → F a = some o ∨ H a = none
  frm : ∀ a o, H a = some o → (∀ ps, o ≠ .tbl ps) → a ∉ as → H' a = some o
  tab : LamX.Tabs (Γ as').T H'
  fnx : ∀ a o, F' a = some o → NX o
  frt : ∀ a ps, H a = some (.tbl ps) → ∃ more, H' a = some (.tbl (ps ++ more))
  len : os'.length = as'.length
  nod : ∀ (j : Nat) (a : Addr) (o : Ov), as'[j]? = some a → os'[j]? = some o → F' a = none ∧ OwnAt (Γ as') F' H' o a
  fr : ∀ a ∈ as', a ∈ as ∨ H a = none
  nd : as'.Nodup
/-- the arguments, then the nodes -/
noncomputable def argsH (ds : List D) (os : List Ov) : List Rv := ds.map .val ++ os.map .own
noncomputable def FWantH (Γ : List Addr → Gam) (as : List Addr) (H F : Hp) (Q : VK) (E : XK) (r : FR) : Prop :=
  match r with
  | .ok (.val d) rs => ∃ os' : List Ov, rs = os'.map .own ∧ ∀ v as' H' F', AfterH Γ as H F as' os' H' F' → Rep (Γ as') F' d v → Q v H'
  | .exc x rs => ∃ os' : List Ov, rs = os'.map .own ∧ ∀ cls d as' H' F', AfterH Γ as H F as' os' H' F' → XRep (Γ as') F' H' x cls d → E cls d H'
  | _ => False
noncomputable def spH (Γ : List Addr → Gam) (n : Nat) (f : Fn) : Sp := fun vs H Q E => ∃ as ds os F, ArgsH Γ as ds os vs H F ∧ ds.length = n ∧ FWantH Γ as H F Q E (f (argsH ds os))
theorem spH.len {Γ : List Addr → Gam} {n : Nat} {f : Fn} : ∀ vs H Q E, spH Γ n f vs H Q E → vs.length = n := fun vs H Q E ⟨as, ds, os, F, A, hn, _⟩ => by rw [← A.val.len]; exact hn
end G
namespace G
open PySem PySem.Spec PyProof.Rows L2
/-! ### calls that hand all nodes on -/
end G
namespace G
open PySem PySem.Spec PyProof.Rows L2
/-! ### a def over nodes, called: its parameters -/
end G
namespace G
open PySem PySem.Spec PyProof.Rows L2
/-! ### calls of defs over nodes -/
end G
namespace G
open PySem PySem.Spec PyProof.Rows L2
end G
namespace G
open PySem PySem.Spec PyProof.Rows L2
end G
namespace G
open PySem PySem.Spec PyProof.Rows L2 PySem.W PySem.Calls HandSHeadRun
/-! ### the head's run in pieces over written states -/
end G
namespace G
open PySem PySem.Spec PyProof.Rows L2
section
variable {Γ : List Addr → Gam} {fx : Fx} {E : WX} {N : Nat} {X : Cx} {pos pos' : Pos}
/-! ### try: .. except (A, B, C) as e: x = f"..{e.code}" -/
theorem RelH.setNo {as : List Addr} {S : Slots} {σ : L2.St} {H F : Hp} (R : RelH Γ fx N as S σ H F) {i : Nat} (hi : i < N) {x : Option V} : RelH Γ fx N as (S.set i .no) (σ.set i x) H F :=
  R.keep (by rw [List.length_set]; exact R.len) (by rw [← ghost_set (by rw [R.len]; exact hi)]; exact R.rel.setNo) fun j hj => List.getElem?_set_ne (by omega)
/-! ### special methods of the old kind, asked of a node -/
theorem XA.any {ι : Type} {k n : Nat} {f : Addr} {ks : List Str} {sp : ι → Sp} (h : ∀ i, XA X k f n ks (sp i)) : XA X k f n ks fun vs H Q E => ∃ i, sp i vs H Q E :=
  fun A outer s H us ws vs zs Q E hr e0 r rz l1 l2 ⟨i, q⟩ => h i A outer s H us ws vs zs Q E hr e0 r rz l1 l2 q
/-! ### repr(x), bool(x), x a node whose special method is a def over nodes -/
/-! ### f-strings over nodes -/
/-! ### methods of texts over nodes -/
/-! ### x.m().append(c) over nodes -/
end
end G
namespace G
open PySem PySem.Spec PyProof.Rows L2
end G
namespace G
open PySem PySem.Spec PyProof.Rows L2
end G
namespace G
open PySem PySem.W PySem.Calls PyProof.Rows
/-! ### sorted(xs, key=f) where f's calls give new lists (rows) -/
section
variable {prog : Program} {w : World} {A : Around} {E : Value → Shared → Prop} {s : Shared} {a kS : Addr} {vs : List Value} {kz : List PyData} {P : PySem.Fin → Shared → Prop} {e1 : Nat}
/-- a key that was told, apart from the list of the keys -/
noncomputable def KeyAt (kS : Addr) (g : Heap) (v : Value) (k : PyData) : Prop := (∃ as, Reads g v k as ∧ kS ∉ as) ∧ alike k k = true
theorem KeyAt.keeps {g g2 : Heap} (h : ∀ b o, g.get? b = some o → g2.get? b = some o) {v : Value} {k : PyData} (q : KeyAt kS g v k) : KeyAt kS g2 v k := by
  obtain ⟨⟨as, r, n⟩, l⟩ := q
  exact ⟨⟨as, PyProof.Rows.Reads.keeps h r, n⟩, l⟩
end
end G
namespace G
end G
namespace G
end G
namespace G
open PySem PySem.Spec PyProof.Rows L2
/-! ### a def that returns a list of new lists; the first of them alone is kept: x.m()[0] -/
noncomputable abbrev FnR : Type := List Rv → Option (List (List D) × List Rv)
/-- what such a def gives back: the list and its rows are new, and no datum leans on them -/
noncomputable def RowsRet (Γ : Gam) (H H' F' : Hp) (dss : List (List D)) (v : V) : Prop := ∃ (Da : Addr) (cs : List Addr), v = .ref Da ∧ H Da = none ∧ F' Da = none ∧ H' Da = some (.lst (cs.map V.ref)) ∧ cs.length = dss.length ∧ Da ∉ cs ∧
  ∀ (k : Nat) (c : Addr) (ds : List D), cs[k]? = some c → dss[k]? = some ds → H c = none ∧ F' c = none ∧ ∃ vs, H' c = some (.lst vs) ∧ Reps Γ F' ds vs
noncomputable def spRows (Γ : Gam) (n : Nat) (f : FnR) : Sp := fun vs H Q E => ∃ as F, Args Γ as vs H F ∧ as.length = n ∧ match f as with
  | some (dss, as') => ∀ v H' F', After Γ as vs H F as' H' F' → RowsRet Γ H H' F' dss v → Q v H'
  | none => False
theorem spRows.len {Γ : Gam} {n : Nat} {f : FnR} : ∀ vs H Q E, spRows Γ n f vs H Q E → vs.length = n := fun vs H Q E ⟨as, F, A, hn, _⟩ => by rw [← A.len]; exact hn
end G
namespace G
open PySem PySem.Spec PyProof.Rows L2
/-! ### error objects as values -/
/-- an error object, kept as it is -/
noncomputable def erH (a : Addr) (oe : Obj) : HO := .frz oe (.ext fun h => h.get? a = some oe)
noncomputable def ErrAt (F : Hp) (a C : Addr) (ks : List Str) (vs : List V) : Prop := ∃ (oe : Obj) (ws : Array Value) (dd : Addr) (fs : List (Str × V)), F a = some (erH a oe) ∧ oe.cls = .ref C ∧ oe.dict = some dd ∧ oe.data = .fields ws ∧ F dd = some (.xd fs) ∧ fs.map (·.1) = ks ∧ fs.map (·.2) = vs
theorem ErrAt.mono {F F' : Hp} {a C : Addr} {ks : List Str} {vs : List V} (e : ∀ b o, F b = some o → F' b = some o) (h : ErrAt F a C ks vs) : ErrAt F' a C ks vs := by
  obtain ⟨oe, ws, dd, fs, h1, h2, h3, h4, h5, h6, h7⟩ := h
  exact ⟨oe, ws, dd, fs, e _ _ h1, h2, h3, h4, e _ _ h5, h6, h7⟩
end G
namespace G
open PySem PySem.Spec PyProof.Rows L2
end G
namespace PySem
end PySem
namespace G
open PySem PySem.Spec PyProof.Rows L2
end G
namespace G
open PySem PySem.Spec PyProof.Rows L2
open He (eqO eqO_ok ba)
/-! ### isinstance of an error value -/
/-! the closures of a law whose errors are values -/
end G
namespace G
open PySem PySem.Spec PyProof.Rows L2
open He (Fa eqO eqO_ok ba ga ma frG frG_in)
/-! ### errors made with keywords: facts -/
/-! ### facts of the classes -/
/-! ### walk rules -/
end G
namespace G
open PySem PySem.Spec PyProof.Rows L2 GenW
/-! ### a def that hands out: between two turns its reader may change things of its own -/
structure Dz (Sa : Addr) (fa : List Addr) (v : Value) (s s1 : Shared) : Prop where
  os : s1.os = s.os
  bare : AllBare s1.gens
  keep : ∀ b o, b ≠ Sa → b ∉ fa → s.heap.get? b = some o → s1.heap.get? b = some o
  own : ∀ acc c, s.heap.get? Sa = some (lstObj acc c) → ∃ c1, s1.heap.get? Sa = some (lstObj (acc.push v) c1)
  oth : ∀ b ∈ fa, ∃ o, s1.heap.get? b = some o ∧ ∀ v, o.data ≠ .cell v
/-- running: ys is out and stands in the reader's list; the reader's other things stand as at the turn's begin -/
noncomputable def Rn (X : Cx) (Sa : Addr) (fa : List Addr) (s0 : Shared) (ip : List (Addr × Obj)) (ys : List V) (σ : L2.St) (H : Hp) (s : Shared) : Prop :=
  (∀ b ∈ fa, ∃ o, s0.heap.get? b = some o) ∧ ∃ (acc : Array Value) (c : Nat), Vals ys acc.toList ∧ Inv X ((Sa, lstObj acc c) :: (pinsAt fa s0.heap ++ ip)) σ H s
section
variable {X : Cx} {Sa : Addr} {fa : List Addr} {s0 s s1 : Shared} {ip : List (Addr × Obj)} {ys : List V} {σ : L2.St} {H : Hp}
theorem Rn.at (h : Rn X Sa fa s0 ip ys σ H s) : (H Sa = none ∧ Sa ∉ X.fs) ∧ (∀ b ∈ fa, ∃ o, s0.heap.get? b = some o ∧ s.heap.get? b = some o ∧ H b = none ∧ b ∉ X.fs) ∧ ∃ (acc : Array Value) (c : Nat), Vals ys acc.toList ∧ s.heap.get? Sa = some (lstObj acc c) := by
  obtain ⟨hx, acc, c, r, I⟩ := h
  obtain ⟨p1, p2, p3, p4, _⟩ := I.pin (Sa, lstObj acc c) (List.mem_append_right _ List.mem_cons_self)
  refine ⟨⟨p2, p4⟩, fun b hb => ?_, acc, c, r, p1⟩
  obtain ⟨o, e⟩ := hx b hb
  obtain ⟨q1, q2, q3, q4, _⟩ := I.pin (b, o) (List.mem_append_right _ (List.mem_cons_of_mem _ (List.mem_append_left _ (mem_pinsAt hb e))))
  exact ⟨o, e, q1, q2, q4⟩
end
/-! ### the protocol -/
end G
namespace G
open PySem PySem.Spec PyProof.Rows L2 GenW
/-! ### for, in a def that hands out -/
end G
namespace G
open PySem PySem.Spec PyProof.Rows L2 GenW
/-! ### what a def that hands out comes to: its names, and all that is out -/
section
variable {Γ : Gam} {fx : Fx} {X : Cx} {yp pos : Pos}
theorem post_of {α : Type} {E : WX} {σ : L2.St} {F : Hp} {r : R (α × Slots)} {a : α} {S1 : Slots} {k : α → Slots → Hp → Hp → Prop} (e : r = .ok (a, S1)) (h : ∀ H1 F1, Ext F F1 → Rel Γ fx S1 σ H1 F1 → k a S1 H1 F1) : Post Γ fx E σ F r k := by
  rw [e]; exact h
end
end G
namespace G
open PySem PySem.Spec PyProof.Rows L2 GenW
/-! ### a def that hands out, seen from without -/
/-- what one turn gives -/
noncomputable def YO (sc : Shared) (Sa : Addr) (fa : List Addr) : Protocol := fun n s0 v s kap =>
  s.os = sc.os ∧ AllBare s.gens ∧ s.heap.NoLimit ∧ (∃ (acc : Array Value) (c : Nat), s.heap.get? Sa = some (lstObj acc c) ∧ n + 1 + acc.size = sizeLine) ∧ (∀ b ∈ fa, s.heap.get? b = s0.heap.get? b) ∧ ∀ s1, Dz Sa fa v s s1 → kap (.send .none) s1
/-- the end -/
noncomputable def FO (P : Program) (w : World) (outer : List PySem.Env) (H : Hp) (sc : Shared) (Sa : Addr) (fa : List Addr) (Q : VK) (s0 s1 : Shared) : Prop :=
  ∃ H1 ys acc c, s1.os = sc.os ∧ AllBare s1.gens ∧ Un (frs outer) [] H H1 sc.heap s1.heap ∧ HOk P w H1 s1.heap ∧ H1 Sa = none ∧ (∀ b ∈ fa, H1 b = none ∧ s1.heap.get? b = s0.heap.get? b) ∧ s1.heap.get? Sa = some (lstObj acc c) ∧ Vals ys acc.toList ∧ ys.length ≤ sizeLine ∧ Q (.ref Sa) (upd H1 Sa (.lst ys))
noncomputable def RO (P : Program) (w : World) (outer : List PySem.Env) (H : Hp) (sc : Shared) (Sa : Addr) (fa : List Addr) (Q : VK) : GenEnd := fun n s0 r s1 =>
  ((r = .ok (.ret .none) ∨ r = .ok .next) ∧ FO P w outer H sc Sa fa Q s0 s1) ∨ ∃ e : Value, r = .error e ∧ False
/-- made by a call, not yet begun -/
noncomputable def Mz (P : Program) (w : World) (k : Nat) (outer : List PySem.Env) (H : Hp) (s : Shared) (Q : VK) (u : Value) (s1 : Shared) : Prop :=
  ∃ (a : Addr) (g : Nat) (c : Code), u = .ref a ∧ s.heap.objs.size ≤ a ∧ a < s1.heap.objs.size ∧ s1.heap.IsGen a g ∧ (∀ o v, s1.heap.get? a = some o → o.data ≠ .cell v) ∧ s1.gens[g]? = some (.fresh c) ∧ s1.os = s.os ∧ AllBare s1.gens ∧ s1.heap.NoLimit ∧ (∀ b o, s.heap.get? b = some o → s1.heap.get? b = some o) ∧
    ∀ (A : Around) (Sa : Addr) (fa : List Addr) (s2 : Shared), Room k A → A.frames = some outer → s1.heap.objs.size ≤ Sa → Sa ∉ fa → (∀ b ∈ fa, b = a ∨ s1.heap.objs.size ≤ b) → (∀ b ∈ fa, ∃ o, s2.heap.get? b = some o ∧ ∀ v, o.data ≠ .cell v) →
      (∀ b o, s1.heap.get? b = some o → s2.heap.get? b = some o) → (∃ c, s2.heap.get? Sa = some (lstObj #[] c)) → s2.os = s.os → AllBare s2.gens →
      Seg (model P w) A (RO P w outer H s Sa fa Q) (YO s Sa fa) sizeLine s2 c ((model P w).den c) [] s2
noncomputable def GnA (P : Program) (w : World) (K : PySem.W.Frag) (mg : Str → Option Value) (base : Heap) (k : Nat) (f : Addr) (n : Nat) (ks : List Str) (sp : Sp) : Prop :=
  ∀ (A : Around) (outer : List PySem.Env) (s : Shared) (H : Hp) (us ws : List Value) (vs zs : List V) (Q : VK) (E : XK), Room k A → Env0 P w K mg base A outer s H → Vals vs us → Vals zs ws → us.length = n → ws.length = ks.length → sp (vs ++ zs) H Q E →
    codeAny (model P w) A (.call (.ref f) ⟨us, ks.zip ws⟩) (fun r s1 => match r with | .ok (.ret u) => Mz P w k outer H s Q u s1 | _ => False) s
theorem GnA.mono {P : Program} {w : World} {K : PySem.W.Frag} {mg : Str → Option Value} {base : Heap} {j k : Nat} {f : Addr} {n : Nat} {ks : List Str} {sp : Sp} (F : GnA P w K mg base j f n ks sp) (h : j ≤ k) : GnA P w K mg base k f n ks sp :=
  fun A outer s H us ws vs zs Q E hr e0 r rz l1 l2 q => codeAny_mono (F A outer s H us ws vs zs Q E (hr.mono h) e0 r rz l1 l2 q) fun r s1 z => by
    cases r with
    | error e => exact z
    | ok fl =>
      cases fl with
      | ret u =>
        obtain ⟨a, g, c, z1, z2, z3, z4, z4b, z5, z6, z7, z8, z9, wk⟩ := z
        exact ⟨a, g, c, z1, z2, z3, z4, z4b, z5, z6, z7, z8, z9, fun A Sa fa s2 hr => wk A Sa fa s2 (hr.mono h)⟩
      | next => exact z
      | brk => exact z
      | cont => exact z
end G
namespace G
open PySem PySem.Spec PyProof.Rows L2 GenW
/-! ### [x for x in f(..)], f a def that hands out -/
end G
namespace G
open PySem PySem.Spec PyProof.Rows L2 GenW
end G
namespace G
open PySem PySem.Spec PyProof.Rows L2
/-! ### all lists that are known are locked while an expression is read: what it makes anew is known apart -/
noncomputable def lk (F : Hp) (hp : Heap) (H : Hp) : Hp := fun a => match F a with
  | some (.lst vs) => (match hp.get? a with
    | some o => some (.frz o (.lst vs))
    | none => H a)
  | _ => H a
noncomputable def ulk (F H1 : Hp) : Hp := fun a => match F a with
  | some (.lst vs) => some (.lst vs)
  | _ => H1 a
/-- what is no list of F -/
noncomputable def gN (F F1 : Hp) : Hp := fun a => match F a with
  | some (.lst _) => none
  | _ => F1 a
section
variable {F H H1 : Hp} {hp : Heap} {a : Addr} {o : HO} {ob : Obj} {vs : List V}
theorem lk_lst (h : F a = some (.lst vs)) (e : hp.get? a = some ob) : lk F hp H a = some (.frz ob (.lst vs)) := by
  unfold lk; simp only [h, e]
theorem lk_not (h : ∀ vs, F a ≠ some (.lst vs)) : lk F hp H a = H a := by
  unfold lk
  split
  · rename_i vs e; exact absurd e (h vs)
  · rfl
theorem not_lst (x : Ext F H) (h : H a = some o) (n : ∀ vs, o ≠ .lst vs) : ∀ vs, F a ≠ some (.lst vs) := fun vs e => by
  have z := x _ _ e
  rw [h] at z
  cases z
  exact n vs rfl
theorem lk_some (x : Ext F H) (h : H a = some o) (n : ∀ vs, o ≠ .lst vs) : lk F hp H a = some o := by rw [lk_not (not_lst x h n)]; exact h
theorem lk_none (x : Ext F H) (h : H a = none) : lk F hp H a = none := by
  rw [lk_not fun vs e => by have z := x _ _ e; rw [h] at z; cases z]; exact h
theorem ulk_lst (h : F a = some (.lst vs)) : ulk F H1 a = some (.lst vs) := by unfold ulk; simp only [h]
theorem ulk_not (h : ∀ vs, F a ≠ some (.lst vs)) : ulk F H1 a = H1 a := by
  unfold ulk
  split
  · rename_i vs e; exact absurd e (h vs)
  · rfl
theorem gN_not (h : ∀ vs, F a ≠ some (.lst vs)) : gN F H1 a = H1 a := by
  unfold gN
  split
  · rename_i vs e; exact absurd e (h vs)
  · rfl
end
/-- locked by us -/
noncomputable abbrev Lkd (F H1 : Hp) : Prop := ∀ a vs, F a = some (.lst vs) → ∃ o, H1 a = some (.frz o (.lst vs))
theorem Lkd.not {F H1 : Hp} (l : Lkd F H1) {a : Addr} {o : HO} (h : H1 a = some o) (n : ∀ ob vs, o ≠ .frz ob (.lst vs)) : ∀ vs, F a ≠ some (.lst vs) := fun vs e => by
  obtain ⟨ob, z⟩ := l a vs e
  rw [h] at z
  cases z
  exact n ob vs rfl
theorem Lkd.none {F H1 : Hp} (l : Lkd F H1) {a : Addr} (h : H1 a = none) : ∀ vs, F a ≠ some (.lst vs) := fun vs e => by
  obtain ⟨ob, z⟩ := l a vs e
  rw [h] at z
  cases z
section
variable {X : Cx} {pins : List (Addr × Obj)} {σ : L2.St} {H H1 F : Hp} {s : Shared}
theorem HOk.there {P : Program} {w : World} {H : Hp} {h : Heap} {a : Addr} {vs : List V} (x : HOk P w H h) (e : H a = some (.lst vs)) : ∃ o, h.get? a = some o := by
  obtain ⟨_, _, _, _, z⟩ := x a _ e
  exact ⟨_, z⟩
theorem inv_lock (I : Inv X pins σ H s) (x : Ext F H) : Inv X pins σ (lk F s.heap H) s := by
  refine ⟨I.ok, I.os, I.bare, ⟨I.base.keep, I.base.slot, fun b o e n hx => lk_none x (I.base.free b o e n hx), I.base.there, fun b xs e => lk_some x (I.base.tups b xs e) (fun _ z => nomatch z), fun b o u e => lk_some x (I.base.frzs b o u e) (fun _ z => nomatch z), fun b ps e => ?_⟩, I.loc, I.cell, lk_none x I.free,
    fun y c e => lk_none x (I.freeC y c e), fun p hp => ?_, fun b o e => ?_, I.len⟩
  · obtain ⟨m, q⟩ := I.base.tbls b ps e
    exact ⟨m, lk_some x q (fun _ z => nomatch z)⟩
  · obtain ⟨e, n, r⟩ := I.pin p hp
    exact ⟨e, lk_none x n, r⟩
  · have st : ∀ {c : Addr} {u : HO}, ObjOk X.prog X.w H s.heap c u → ObjOk X.prog X.w (lk F s.heap H) s.heap c u := fun {c u} y =>
      y.stay (fun _ _ _ q => q) (fun d q => lk_some x q (fun _ z => nomatch z)) fun d xs q => lk_some x q (fun _ z => nomatch z)
    by_cases q : ∃ vs, F b = some (.lst vs)
    · obtain ⟨vs, q⟩ := q
      have hH := x _ _ q
      obtain ⟨ob, eo⟩ := HOk.there I.hok hH
      rw [lk_lst q eo] at e
      cases e
      exact ⟨eo, st (I.hok b _ hH)⟩
    · rw [lk_not fun vs z => q ⟨vs, z⟩] at e
      exact st (I.hok b o e)
theorem inv_unlock (I : Inv X pins σ H1 s) (l : Lkd F H1) (h0 : ∀ a vs, F a = some (.lst vs) → ∀ o u, X.H_0 a ≠ some (.frz o u)) : Inv X pins σ (ulk F H1) s := by
  have keep : ∀ {b : Addr} {o : HO}, H1 b = some o → (∀ ob vs, o ≠ .frz ob (.lst vs)) → ulk F H1 b = some o := fun {b o} e n => by rw [ulk_not (l.not e n)]; exact e
  have none_ : ∀ {b : Addr}, H1 b = none → ulk F H1 b = none := fun {b} e => by rw [ulk_not (l.none e)]; exact e
  refine ⟨I.ok, I.os, I.bare, ⟨I.base.keep, I.base.slot, fun b o e n hx => none_ (I.base.free b o e n hx), I.base.there, fun b xs e => keep (I.base.tups b xs e) (fun _ _ z => nomatch z), fun b o u e => ?_, fun b ps e => ?_⟩, I.loc, I.cell, none_ I.free,
    fun y c e => none_ (I.freeC y c e), fun p hp => ?_, fun b o e => ?_, I.len⟩
  · rw [ulk_not fun vs z => h0 b vs z o u e]
    exact I.base.frzs b o u e
  · obtain ⟨m, q⟩ := I.base.tbls b ps e
    exact ⟨m, keep q (fun _ _ z => nomatch z)⟩
  · obtain ⟨e, n, r⟩ := I.pin p hp
    exact ⟨e, none_ n, r⟩
  · have st : ∀ {c : Addr} {u : HO}, ObjOk X.prog X.w H1 s.heap c u → ObjOk X.prog X.w (ulk F H1) s.heap c u := fun {c u} y =>
      y.stay (fun _ _ _ q => q) (fun d q => keep q (fun _ _ z => nomatch z)) fun d xs q => keep q (fun _ _ z => nomatch z)
    by_cases q : ∃ vs, F b = some (.lst vs)
    · obtain ⟨vs, q⟩ := q
      obtain ⟨ob, e1⟩ := l b vs q
      rw [ulk_lst q] at e
      cases e
      exact st (I.hok b _ e1).2
    · rw [ulk_not fun vs z => q ⟨vs, z⟩] at e
      exact st (I.hok b o e)
end
/-! ### data with their lists locked, data whose lists are all unlocked -/
mutual
noncomputable def scrD : D → D
  | .lst ds => .scr (scrDs ds)
  | .scr ds => .scr (scrDs ds)
  | .tup ds => .tup (scrDs ds)
  | .ins c fs ds => .ins c fs (scrDs ds)
  | .non => .non
  | .bl b => .bl b
  | .int i => .int i
  | .str x => .str x
  | .cls c => .cls c
  | .dic ks ds => .dic ks ds
  | .clo n ds => .clo n ds
noncomputable def scrDs : List D → List D
  | [] => []
  | d :: r => scrD d :: scrDs r
end
mutual
/-- no dict, nothing of its own kind -/
noncomputable def ndD : D → Bool
  | .lst ds => ndDs ds
  | .scr ds => ndDs ds
  | .tup ds => ndDs ds
  | .ins _ _ ds => ndDs ds
  | .dic _ _ => false
  | .clo _ _ => false
  | _ => true
noncomputable def ndDs : List D → Bool
  | [] => true
  | d :: r => ndD d && ndDs r
end
mutual
/-- .. and no locked list -/
noncomputable def nsD : D → Bool
  | .lst ds => nsDs ds
  | .tup ds => nsDs ds
  | .ins _ _ ds => nsDs ds
  | .scr _ => false
  | .dic _ _ => false
  | .clo _ _ => false
  | _ => true
noncomputable def nsDs : List D → Bool
  | [] => true
  | d :: r => nsD d && nsDs r
end
section
variable {Γ : Gam} {F F1 : Hp} {hp : Heap}
theorem sqT_lk {K : PySem.W.Frag} {a : Addr} {vs : List V} (h : SqT K F a vs) : SqT K (lk F hp F) a vs := by
  rcases h with (h | ⟨o, h⟩) | h
  · exact .inl (.inl (lk_some (Ext.refl F) h (fun _ z => nomatch z)))
  · exact .inl (.inr ⟨o, lk_some (Ext.refl F) h (fun _ z => nomatch z)⟩)
  · exact .inr h
theorem sqL_lk {K : PySem.W.Frag} {a : Addr} {vs : List V} (hh : ∀ a vs, F a = some (.lst vs) → ∃ o, hp.get? a = some o) (h : SqL K F a vs) : SqL K (lk F hp F) a vs := by
  rcases h with (h | ⟨o, h⟩) | h
  · obtain ⟨ob, e⟩ := hh a vs h
    exact .inl (.inr ⟨ob, lk_lst h e⟩)
  · exact .inl (.inr ⟨o, lk_some (Ext.refl F) h (fun _ z => nomatch z)⟩)
  · exact .inr h
mutual
theorem rep_lock (hh : ∀ a vs, F a = some (.lst vs) → ∃ o, hp.get? a = some o) : ∀ (d : D) (v : V), ndD d = true → Rep Γ F d v → Rep Γ (lk F hp F) (scrD d) v
  | .lst ds, v, n, ⟨a, vs, e, h, r⟩ => ⟨a, vs, e, sqL_lk hh (SqL.of h), reps_lock hh ds vs n r⟩
  | .scr ds, v, n, ⟨a, vs, e, h, r⟩ => ⟨a, vs, e, sqL_lk hh h, reps_lock hh ds vs n r⟩
  | .tup ds, v, n, ⟨a, vs, e, h, r⟩ => ⟨a, vs, e, sqT_lk h, reps_lock hh ds vs n r⟩
  | .ins c fs ds, v, n, ⟨a, dx, l, e, h, e2, r⟩ => ⟨a, dx, l, e, lk_some (Ext.refl F) h (fun _ z => nomatch z), e2, reps_lock hh ds _ n r⟩
  | .non, v, n, h => h
  | .bl b, v, n, h => h
  | .int i, v, n, h => h
  | .str x, v, n, h => h
  | .cls c, v, n, h => h
  | .dic ks ds, v, n, h => by cases n
  | .clo k ds, v, n, h => by cases n
theorem reps_lock (hh : ∀ a vs, F a = some (.lst vs) → ∃ o, hp.get? a = some o) : ∀ (ds : List D) (vs : List V), ndDs ds = true → Reps Γ F ds vs → Reps Γ (lk F hp F) (scrDs ds) vs
  | [], vs, n, h => h
  | d :: r, vs, n, ⟨v, u, e, h, t⟩ => by
    have n' : (ndD d && ndDs r) = true := n
    rw [Bool.and_eq_true] at n'
    exact ⟨v, u, e, rep_lock hh d v n'.1 h, reps_lock hh r u n'.2 t⟩
end
mutual
theorem rep_new (l : Lkd F F1) : ∀ (d : D) (v : V), nsD d = true → Rep Γ F1 d v → Rep Γ (gN F F1) d v
  | .lst ds, v, n, ⟨a, vs, e, h, r⟩ => ⟨a, vs, e, by rw [gN_not (l.not h (fun _ _ z => nomatch z))]; exact h, reps_new l ds vs n r⟩
  | .tup ds, v, n, ⟨a, vs, e, h, r⟩ => ⟨a, vs, e, by
      rcases h with (h | ⟨o, h⟩) | h
      · exact .inl (.inl (by rw [gN_not (l.not h (fun _ _ z => nomatch z))]; exact h))
      · exact .inl (.inr ⟨o, by rw [gN_not (l.not h (fun _ _ z => nomatch z))]; exact h⟩)
      · exact .inr h, reps_new l ds vs n r⟩
  | .ins c fs ds, v, n, ⟨a, dx, q, e, h, e2, r⟩ => ⟨a, dx, q, e, by rw [gN_not (l.not h (fun _ _ z => nomatch z))]; exact h, e2, reps_new l ds _ n r⟩
  | .non, v, n, h => h
  | .bl b, v, n, h => h
  | .int i, v, n, h => h
  | .str x, v, n, h => h
  | .cls c, v, n, h => h
  | .scr ds, v, n, h => by cases n
  | .dic ks ds, v, n, h => by cases n
  | .clo k ds, v, n, h => by cases n
theorem reps_new (l : Lkd F F1) : ∀ (ds : List D) (vs : List V), nsDs ds = true → Reps Γ F1 ds vs → Reps Γ (gN F F1) ds vs
  | [], vs, n, h => h
  | d :: r, vs, n, ⟨v, u, e, h, t⟩ => by
    have n' : (nsD d && nsDs r) = true := n
    rw [Bool.and_eq_true] at n'
    exact ⟨v, u, e, rep_new l d v n'.1 h, reps_new l r u n'.2 t⟩
end
end
/-! ### the state -/
noncomputable def lockS (S : Slots) : Slots := S.map fun sv => match sv with
  | .val d => if ndD d then .val (scrD d) else .no
  | _ => .no
noncomputable def valS (S : Slots) : Slots := S.map fun sv => match sv with
  | .val d => .val d
  | _ => .no
noncomputable def fxR (fx : Fx) (H F : Hp) : Fx := { H := H, F := F, W := fun _ _ => False, T := fun _ => none, C := fx.C, A := fun _ _ => True, fn := fun _ _ _ h => h.elim }
section
variable {Γ : Gam} {fx : Fx} {S : Slots} {σ : L2.St} {H H1 F : Hp}
theorem tabs_keep {T : List (Addr × Str)} (t : LamX.Tabs T H) (k : ∀ a o, H a = some o → (∀ vs, o ≠ .lst vs) → (∀ ob vs, o ≠ .frz ob (.lst vs)) → H1 a = some o) : LamX.Tabs T H1 := fun q hq => by
  obtain ⟨ps, h1, h2, h3⟩ := t q hq
  refine ⟨ps, k _ _ h1 (fun _ z => nomatch z) (fun _ _ z => nomatch z), h2, fun pos cv hc => ?_⟩
  obtain ⟨c, e1, e2⟩ := h3 pos cv hc
  exact ⟨c, e1, k _ _ e2 (fun _ z => nomatch z) (fun _ _ z => nomatch z)⟩
/-- all that was is kept -/
theorem Rel.keepH (R : Rel Γ fx S σ H F) (k : ∀ a o, H a = some o → (∀ ps, o ≠ .tbl ps) → H1 a = some o) (k2 : ∀ a o, H a = some o → ∃ o1, H1 a = some o1) (b : Bg Γ fx.C fx.H H1) : Rel Γ fx S σ H1 F where
  bg := b
  cb := R.cb
  tnx := R.tnx
  fnx := R.fnx
  len := R.len
  val := R.val
  own := fun i o b e => by
    obtain ⟨a, e1, e2, o1, e3⟩ := R.own i o b e
    obtain ⟨u, hu, nu⟩ := o1.nx
    exact ⟨a, e1, e2, o1.mono (Ext.refl F) fun w hw => k a w hw (by rw [hu] at hw; cases hw; exact nu.1), e3⟩
  inj := R.inj
  sub := fun a o e => k a o (R.sub a o e) (R.fnx a o e).1
  sub0 := R.sub0
  new := R.new
  frm := fun a o e ht hw => k a o (R.frm a o e ht hw) ht
  wth := fun a ha => let ⟨o, e⟩ := R.wth a ha; k2 a o e
  tmp := fun a o e => ⟨k a o (R.tmp a o e).1 (R.tnx a o e), (R.tmp a o e).2⟩
theorem map_get {α β : Type} {f : α → β} {l : List α} {i : Nat} {y : β} (h : (l.map f)[i]? = some y) : ∃ x, l[i]? = some x ∧ f x = y := by
  rw [List.getElem?_map] at h
  cases e : l[i]? with
  | none => rw [e] at h; cases h
  | some x => rw [e] at h; cases h; exact ⟨x, rfl, rfl⟩
theorem Rel.lock {hp : Heap} (R : Rel Γ fx S σ H F) (hh : ∀ a vs, F a = some (.lst vs) → ∃ o, hp.get? a = some o) : Rel Γ (fxR fx (lk F hp H) (lk F hp F)) (lockS S) σ (lk F hp H) (lk F hp F) where
  bg := {
    clo := fun a o e => by
      obtain ⟨⟨φ, h1, h2⟩, h3⟩ := R.bg.clo a o e
      exact ⟨⟨φ, h1, h2⟩, lk_some R.sub h3 (fun _ z => by rw [h2] at z; cases z)⟩
    tab := tabs_keep R.bg.tab fun a o e n _ => lk_some R.sub e n
    frt := fun a ps e => ⟨#[], by
      have e : lk F hp H a = some (.tbl ps) := e
      rw [e]; simp⟩ }
  cb := fun i f e => by
    obtain ⟨x, _, h⟩ := map_get e
    cases x with
    | val d => simp only [] at h; split at h <;> cases h
    | _ => cases h
  tnx := fun a o e => by cases e
  fnx := fun a o e => by
    by_cases q : ∃ vs, F a = some (.lst vs)
    · obtain ⟨vs, q⟩ := q
      obtain ⟨ob, eo⟩ := hh a vs q
      rw [lk_lst q eo] at e
      cases e
      exact nx_frz
    · rw [lk_not fun vs z => q ⟨vs, z⟩] at e
      exact R.fnx a o e
  len := by unfold lockS; rw [List.length_map]; exact R.len
  val := fun i d e => by
    obtain ⟨x, e1, h⟩ := map_get e
    cases x with
    | val d0 =>
      simp only [] at h
      split at h
      · rename_i hn
        cases h
        obtain ⟨v, e2, r⟩ := R.val i d0 e1
        exact ⟨v, e2, rep_lock hh d0 v hn r⟩
      · cases h
    | _ => cases h
  own := fun i o b e => by
    obtain ⟨x, _, h⟩ := map_get e
    cases x with
    | val d => simp only [] at h; split at h <;> cases h
    | _ => cases h
  inj := fun i j o o' b b' a e _ _ _ => by
    obtain ⟨x, _, h⟩ := map_get e
    cases x with
    | val d => simp only [] at h; split at h <;> cases h
    | _ => cases h
  sub := fun a o e => by
    by_cases q : ∃ vs, F a = some (.lst vs)
    · obtain ⟨vs, q⟩ := q
      obtain ⟨ob, eo⟩ := hh a vs q
      rw [lk_lst q eo] at e ⊢
      exact e
    · rw [lk_not fun vs z => q ⟨vs, z⟩] at e ⊢
      exact R.sub a o e
  sub0 := Ext.refl _
  new := fun a o e => .inl e
  frm := fun a o e _ _ => e
  wth := fun a h => by obtain ⟨i, z⟩ := h; exact z.elim
  tmp := fun a o e => by cases e
theorem Rel.rebase (R : Rel Γ fx S σ H F) : Rel Γ (fxR fx H F) (valS S) σ H F where
  bg := ⟨R.bg.clo, R.bg.tab, fun a ps e => ⟨#[], by
    have e : H a = some (.tbl ps) := e
    rw [e]; simp⟩⟩
  cb := fun i f e => by
    obtain ⟨x, _, h⟩ := map_get e
    cases x <;> cases h
  tnx := fun a o e => by cases e
  fnx := R.fnx
  len := by unfold valS; rw [List.length_map]; exact R.len
  val := fun i d e => by
    obtain ⟨x, e1, h⟩ := map_get e
    cases x with
    | val d0 => cases h; exact R.val i d e1
    | _ => cases h
  own := fun i o b e => by
    obtain ⟨x, _, h⟩ := map_get e
    cases x <;> cases h
  inj := fun i j o o' b b' a e _ _ _ => by
    obtain ⟨x, _, h⟩ := map_get e
    cases x <;> cases h
  sub := R.sub
  sub0 := Ext.refl _
  new := fun a o e => .inl e
  frm := fun a o e _ _ => e
  wth := fun a h => by obtain ⟨i, z⟩ := h; exact z.elim
  tmp := fun a o e => by cases e
/-- a region of what is new is given away -/
noncomputable def orH (F G : Hp) : Hp := fun a => match F a with
  | some o => some o
  | none => G a
theorem Rel.giveG {H0 G : Hp} (R0 : Rel Γ fx S σ H0 F) (R : Rel Γ fx S σ H F) (hG : Ext G H) (hN : ∀ a o, G a = some o → F a = some o ∨ H0 a = none) (hx : ∀ a o, G a = some o → NX o) : Ext F (orH F G) ∧ Ext G (orH F G) ∧ Rel Γ fx S σ H (orH F G) := by
  have e1 : Ext F (orH F G) := fun a o e => by unfold orH; simp only [e]
  have e2 : Ext G (orH F G) := fun a o e => by
    unfold orH
    cases q : F a with
    | none => exact e
    | some o' =>
      have z := R.sub a o' q
      rw [hG a o e] at z
      exact z.symm
  have key : ∀ a o, orH F G a = some o → F a = some o ∨ (G a = some o ∧ H0 a = none) := fun a o e => by
    unfold orH at e
    cases q : F a with
    | some o' => rw [q] at e; exact .inl e
    | none =>
      rw [q] at e
      rcases hN a o e with z | z
      · rw [q] at z; cases z
      · exact .inr ⟨e, z⟩
  refine ⟨e1, e2, {
    bg := R.bg
    cb := R.cb
    tnx := R.tnx
    fnx := fun a o e => (key a o e).elim (R.fnx a o) fun z => hx a o z.1
    len := R.len
    val := fun i d e => by obtain ⟨v, h1, r⟩ := R.val i d e; exact ⟨v, h1, r.mono e1⟩
    own := fun i o b e => by
      obtain ⟨a, h1, h2, h3, h4⟩ := R.own i o b e
      refine ⟨a, h1, ?_, h3.mono e1 fun _ z => z, h4⟩
      cases q : orH F G a with
      | none => rfl
      | some u =>
        rcases key a u q with z | z
        · rw [h2] at z; cases z
        · exact absurd rfl (R0.ownNe e h1 z.2)
    inj := R.inj
    sub := fun a o e => (key a o e).elim (R.sub a o) fun z => hG a o z.1
    sub0 := R.sub0.trans e1
    new := fun a o e => (key a o e).elim (R.new a o) fun z => .inr (.inl (R0.fresh z.2).2.1)
    frm := R.frm
    wth := R.wth
    tmp := fun a o e => by
      refine ⟨(R.tmp a o e).1, ?_⟩
      cases q : orH F G a with
      | none => rfl
      | some u =>
        rcases key a u q with z | z
        · have w := (R.tmp a o e).2; rw [w] at z; cases z
        · have w := (R0.fresh z.2).2.2.2; rw [w] at e; cases e }⟩
end
end G
namespace G
open PySem PySem.Spec PyProof.Rows L2
/-! ### an expression that is read while all known lists are locked -/
/-- all is kept -/
noncomputable def Kp (H H1 : Hp) : Prop := (∀ a o, H a = some o → (∀ ps, o ≠ .tbl ps) → H1 a = some o) ∧ ∀ a o, H a = some o → ∃ o1, H1 a = some o1
theorem Kp.trans {H H1 H2 : Hp} (a : Kp H H1) (b : Kp H1 H2) : Kp H H2 := ⟨fun c o e n => b.1 c o (a.1 c o e n) n, fun c o e => let ⟨o1, e1⟩ := a.2 c o e; b.2 c o1 e1⟩
noncomputable def gvD : Pv → Option D
  | .dat d => some d
  | .fr o => some o.d
  | .sl _ => none
/-- a region that was made since H: its lists are new -/
structure Fresh (F H G H1 : Hp) : Prop where
  sub : Ext G H1
  lst : ∀ a vs, G a = some (.lst vs) → H a = none
  new : ∀ a o, G a = some o → F a = some o ∨ H a = none
  nx : ∀ a o, G a = some o → NX o
noncomputable def tGh (Γ : Gam) (g : M Pv) : TE := fun σ H Q => ∃ fx S F, Rel Γ fx S σ H F ∧ ∃ pv S1 d, g (lockS S) = .ok (pv, S1) ∧ gvD pv = some d ∧ nsD d = true ∧
  ∀ v H1 G, Kp H H1 → Bg Γ fx.C fx.H H1 → Rep Γ G d v → Fresh F H G H1 → Q v H1
noncomputable def tRd (Γ : Gam) (g : M Bool) : TT := fun σ H Q => ∃ fx S F, Rel Γ fx S σ H F ∧ ∃ b S1, g (valS S) = .ok (b, S1) ∧ ∀ H1, Kp H H1 → Bg Γ fx.C fx.H H1 → Q b H1
section
variable {Γ : Gam} {X : Cx} {e : Expr}
theorem pe_gh {g : M Pv} (he : ∀ fx, GE Γ fx E0 X e g) : PE X e (tGh Γ g) := by
  refine ⟨fun pins s σ H Q I ⟨fx, S, F, R, pv, S1, d, e1, e2, ns, k⟩ => ?_⟩
  have hh : ∀ a vs, F a = some (.lst vs) → ∃ o, s.heap.get? a = some o := fun a vs e => HOk.there I.hok (R.sub _ _ e)
  have I2 := inv_lock I R.sub
  have R2 := R.lock (hp := s.heap) hh
  refine thn ((he (fxR fx (lk F s.heap H) (lk F s.heap F))).run pins s σ (lk F s.heap H) (fun v H1 => ∃ F1, Ext (lk F s.heap F) F1 ∧ Rel Γ (fxR fx (lk F s.heap H) (lk F s.heap F)) S1 σ H1 F1 ∧ Rep Γ F1 d v) I2
    ⟨lockS S, lk F s.heap F, R2, post_of e1 fun H1 F1 ex R1 v ok => ?_⟩) fun u s1 ⟨v, H1, I1, rv, F1, ex, R1, rp⟩ => ?_
  · cases pv with
    | dat d0 => cases e2; exact ⟨F1, ex, R1, ok⟩
    | fr o =>
      cases e2
      obtain ⟨F2, x2, R3, rp⟩ := R1.giveNew ok
      exact ⟨F2, ex.trans x2, R3, rp⟩
    | sl i => cases e2
  · have lF : Lkd F F1 := fun a vs z => by
      obtain ⟨ob, eo⟩ := hh a vs z
      exact ⟨ob, ex _ _ (lk_lst z eo)⟩
    have l1 : Lkd F H1 := fun a vs z => let ⟨ob, w⟩ := lF a vs z; ⟨ob, R1.sub _ _ w⟩
    have h0 : ∀ a vs, F a = some (.lst vs) → ∀ o u, X.H_0 a ≠ some (.frz o u) := fun a vs z o u w => by
      have q := I.base.frzs a o u w
      rw [R.sub _ _ z] at q
      cases q
    have lkH : ∀ {a : Addr} {o : HO}, H a = some o → (∀ vs, F a ≠ some (.lst vs)) → lk F s.heap H a = some o := fun {a o} w n => by rw [lk_not n]; exact w
    have kp1 : ∀ a o, H a = some o → (∀ ps, o ≠ .tbl ps) → ulk F H1 a = some o := fun a o w n => by
      by_cases q : ∃ vs, F a = some (.lst vs)
      · obtain ⟨vs, q⟩ := q
        have q2 := R.sub _ _ q
        rw [w] at q2
        cases q2
        exact ulk_lst q
      · have q : ∀ vs, F a ≠ some (.lst vs) := fun vs z => q ⟨vs, z⟩
        rw [ulk_not q]
        exact R1.frm a o (lkH w q) n fun z => by obtain ⟨i, z⟩ := z; exact z.elim
    have kpt : ∀ a ps, H a = some (.tbl ps) → ∃ m, ulk F H1 a = some (.tbl (ps ++ m)) := fun a ps w => by
      have q := not_lst R.sub w (fun _ z => nomatch z)
      obtain ⟨m, z⟩ := R1.bg.frt a ps (lkH w q)
      exact ⟨m, by rw [ulk_not q]; exact z⟩
    have kp : Kp H (ulk F H1) := ⟨kp1, fun a o w => by
      by_cases q : ∃ ps, o = .tbl ps
      · obtain ⟨ps, rfl⟩ := q
        obtain ⟨m, z⟩ := kpt a ps w
        exact ⟨_, z⟩
      · exact ⟨o, kp1 a o w fun ps z => q ⟨ps, z⟩⟩⟩
    have nH : ∀ {a : Addr}, (∀ vs, F a ≠ some (.lst vs)) → lk F s.heap H a = none → H a = none := fun {a} q w => by rw [lk_not q] at w; exact w
    have gN_ : ∀ {a : Addr} {o : HO}, gN F F1 a = some o → (∀ vs, F a ≠ some (.lst vs)) ∧ F1 a = some o := fun {a o} w => by
      by_cases q : ∃ vs, F a = some (.lst vs)
      · obtain ⟨vs, q⟩ := q
        unfold gN at w
        rw [q] at w
        cases w
      · have q : ∀ vs, F a ≠ some (.lst vs) := fun vs z => q ⟨vs, z⟩
        exact ⟨q, by rw [gN_not q] at w; exact w⟩
    have nw : ∀ a o, gN F F1 a = some o → F a = some o ∨ H a = none := fun a o w => by
      obtain ⟨q, w⟩ := gN_ w
      rcases R1.new a o w with z | z | z
      · have z : lk F s.heap F a = some o := z
        rw [lk_not q] at z
        exact .inl z
      · exact .inr (nH q z)
      · obtain ⟨i, z⟩ := z; exact z.elim
    refine ⟨v, ulk F H1, inv_unlock I1 l1 h0, rv, k v (ulk F H1) (gN F F1) kp ?_ (rep_new lF d v ns rp) ?_⟩
    · refine ⟨fun a o w => ?_, tabs_keep R1.bg.tab fun a o w _ n2 => by rw [ulk_not (l1.not w n2)]; exact w, fun a ps w => ?_⟩
      · obtain ⟨⟨φ, z1, z2⟩, z3⟩ := R.bg.clo a o w
        exact ⟨⟨φ, z1, z2⟩, kp1 a o z3 fun ps z => by rw [z2] at z; cases z⟩
      · obtain ⟨m, z⟩ := R.bg.frt a ps w
        obtain ⟨m2, z2⟩ := kpt a _ z
        exact ⟨m ++ m2, by rw [z2, Array.append_assoc]⟩
    · refine ⟨fun a o w => ?_, fun a vs w => ?_, nw, fun a o w => R1.fnx a o (gN_ w).2⟩
      · obtain ⟨q, w⟩ := gN_ w
        rw [ulk_not q]
        exact R1.sub a o w
      · rcases nw a _ w with z | z
        · exact absurd z ((gN_ w).1 vs)
        · exact z
theorem pt_rd {g : M Bool} (he : ∀ fx, GT Γ fx E0 X e g) : PT X e (tRd Γ g) := by
  refine ⟨fun pins s σ H Q I ⟨fx, S, F, R, b, S1, e1, k⟩ => ?_⟩
  refine (he (fxR fx H F)).run pins s σ H Q I ⟨valS S, F, R.rebase, post_of e1 fun H1 F1 ex R1 => k H1 ?_ ?_⟩
  · have kp1 : ∀ a o, H a = some o → (∀ ps, o ≠ .tbl ps) → H1 a = some o := fun a o w n => R1.frm a o w n fun z => by obtain ⟨i, z⟩ := z; exact z.elim
    refine ⟨kp1, fun a o w => ?_⟩
    by_cases q : ∃ ps, o = .tbl ps
    · obtain ⟨ps, rfl⟩ := q
      obtain ⟨m, z⟩ := R1.bg.frt a ps w
      exact ⟨_, z⟩
    · exact ⟨o, kp1 a o w fun ps z => q ⟨ps, z⟩⟩
  · refine ⟨fun a o w => ?_, R1.bg.tab, fun a ps w => ?_⟩
    · exact R1.bg.clo a o w
    · obtain ⟨m, z⟩ := R.bg.frt a ps w
      obtain ⟨m2, z2⟩ := R1.bg.frt a _ z
      exact ⟨m ++ m2, by rw [z2, Array.append_assoc]⟩
end
end G
namespace G
open PySem PySem.Spec PyProof.Rows L2
/-! ### a region whose lists change, and that nothing else leans on -/
noncomputable def Fx.wT (fx : Fx) (T : Hp) : Fx := { fx with T := T }
/-- the lists of a region, and what lay aside before -/
noncomputable def lsT (T0 G : Hp) : Hp := fun a => match G a with
  | some (.lst vs) => some (.lst vs)
  | _ => T0 a
/-- a region but for its lists -/
noncomputable def nlH (G : Hp) : Hp := fun a => match G a with
  | some (.lst _) => none
  | o => o
theorem lsT_lst {T0 G : Hp} {a : Addr} {vs : List V} (h : G a = some (.lst vs)) : lsT T0 G a = some (.lst vs) := by unfold lsT; rw [h]
theorem lsT_not {T0 G : Hp} {a : Addr} (h : ∀ vs, G a ≠ some (.lst vs)) : lsT T0 G a = T0 a := by
  unfold lsT
  split
  · rename_i vs e; exact absurd e (h vs)
  · rfl
theorem nlH_of {G : Hp} {a : Addr} {o : HO} (h : nlH G a = some o) : G a = some o ∧ ∀ vs, o ≠ .lst vs := by
  unfold nlH at h
  cases e : G a with
  | none => rw [e] at h; cases h
  | some u =>
    rw [e] at h
    cases u with
    | lst vs => cases h
    | _ => cases h; exact ⟨rfl, fun _ z => nomatch z⟩
theorem nlH_at {G : Hp} {a : Addr} {o : HO} (h : G a = some o) (n : ∀ vs, o ≠ .lst vs) : nlH G a = some o := by
  unfold nlH
  rw [h]
  cases o with
  | lst vs => exact absurd rfl (n vs)
  | _ => rfl
/-- the text whose list may be emptied -/
noncomputable def frag (c : Str) (vs : List V) : Prop := vs = [.str c]
structure MutS (Γ : Gam) (fx : Fx) (n : Nat) (c : Str) (m : Nat) (S : Slots) (σ : L2.St) (H F G T : Hp) : Prop where
  rel : Rel Γ (fx.wT T) S σ H F
  gd : ∀ a vs, G a = some (.lst vs) → ∃ vs1, T a = some (.lst vs1) ∧ (vs.length = n → vs1 = vs) ∧ (frag c vs ∧ vs1.length ≤ m + 1 ∨ ∃ more, vs1 = vs ++ more ∧ more.length ≤ m)
  gt : ∀ a o, G a = some o → (∀ vs, o ≠ .lst vs) → F a = some o
  nw : ∀ a vs, G a = some (.lst vs) → fx.H a = none ∧ (¬ fx.L a) ∧ fx.T a = none
  t0 : ∀ a o, fx.T a = some o → T a = some o
section
variable {Γ : Gam} {fx : Fx} {n m : Nat} {c : Str} {S : Slots} {σ : L2.St} {H H0 F G T : Hp}
/-- a region is put aside -/
theorem mut_begin (R0 : Rel Γ fx S σ H0 F) (R : Rel Γ fx S σ H F) (fr : Fresh F H0 G H) : ∃ F2, Ext F F2 ∧ MutS Γ fx n c 0 S σ H F2 G (lsT fx.T G) := by
  have gsub : Ext (nlH G) H := fun a o e => fr.sub a o (nlH_of e).1
  obtain ⟨e1, e2, R2⟩ := R0.giveG R gsub (fun a o e => fr.new a o (nlH_of e).1) (fun a o e => fr.nx a o (nlH_of e).1)
  have fl : ∀ a vs, G a = some (.lst vs) → F a = none ∧ fx.H a = none ∧ (¬ fx.L a) ∧ fx.T a = none := fun a vs e => R0.fresh (fr.lst a vs e)
  have tT : ∀ {a : Addr} {o : HO}, lsT fx.T G a = some o → (∃ vs, o = .lst vs ∧ G a = some (.lst vs)) ∨ ((∀ vs, G a ≠ some (.lst vs)) ∧ fx.T a = some o) := fun {a o} e => by
    by_cases q : ∃ vs, G a = some (.lst vs)
    · obtain ⟨vs, q⟩ := q
      rw [lsT_lst q] at e
      cases e
      exact .inl ⟨vs, rfl, q⟩
    · have q : ∀ vs, G a ≠ some (.lst vs) := fun vs z => q ⟨vs, z⟩
      rw [lsT_not q] at e
      exact .inr ⟨q, e⟩
  have oG : ∀ a vs, G a = some (.lst vs) → orH F (nlH G) a = none := fun a vs e => by
    unfold orH
    rw [(fl a vs e).1]
    show nlH G a = none
    unfold nlH
    rw [e]
  refine ⟨orH F (nlH G), e1, ⟨?_, fun a vs e => ⟨vs, lsT_lst e, fun _ => rfl, .inr ⟨[], by simp, Nat.le_refl _⟩⟩, fun a o e n => e2 a o (nlH_at e n), fun a vs e => (fl a vs e).2, fun a o e => ?_⟩⟩
  · exact {
      bg := R2.bg
      cb := R2.cb
      tnx := fun a o e ps z => by
        rcases tT e with ⟨vs, rfl, _⟩ | ⟨_, e⟩
        · cases z
        · exact R2.tnx a o e ps z
      fnx := R2.fnx
      len := R2.len
      val := R2.val
      own := fun i o b e => by
        obtain ⟨a, h1, h2, h3, h4, h5⟩ := R2.own i o b e
        refine ⟨a, h1, h2, h3, ?_, h5⟩
        show lsT fx.T G a = none
        rw [lsT_not fun vs z => ?_]
        · exact h4
        · exact R0.ownNe e h1 (fr.lst a vs z) rfl
      inj := R2.inj
      sub := R2.sub
      sub0 := R2.sub0
      new := R2.new
      frm := R2.frm
      wth := R2.wth
      tmp := fun a o e => by
        rcases tT e with ⟨vs, rfl, q⟩ | ⟨q, e⟩
        · exact ⟨fr.sub a _ q, oG a vs q⟩
        · exact R2.tmp a o e }
  · rw [lsT_not fun vs z => by have w := (fl a vs z).2.2.2; rw [w] at e; cases e]
    exact e
theorem mut_end (M : MutS Γ fx n c m S σ H F G T) : Rel Γ fx S σ H F where
  bg := M.rel.bg
  cb := M.rel.cb
  tnx := fun a o e => M.rel.tnx a o (M.t0 a o e)
  fnx := M.rel.fnx
  len := M.rel.len
  val := M.rel.val
  own := fun i o b e => by
    obtain ⟨a, h1, h2, h3, h4, h5⟩ := M.rel.own i o b e
    refine ⟨a, h1, h2, h3, ?_, h5⟩
    cases q : fx.T a with
    | none => rfl
    | some u =>
      have z := M.t0 a u q
      have h4 : T a = none := h4
      rw [h4] at z; cases z
  inj := M.rel.inj
  sub := M.rel.sub
  sub0 := M.rel.sub0
  new := M.rel.new
  frm := M.rel.frm
  wth := M.rel.wth
  tmp := fun a o e => M.rel.tmp a o (M.t0 a o e)
/-- a list of the region changes -/
theorem mut_put (M : MutS Γ fx n c m S σ H F G T) {a : Addr} {vs ys : List V} (hG : G a = some (.lst vs)) (hn : vs.length ≠ n) (hp : frag c vs ∧ ys.length ≤ m + 2 ∨ ∃ more, ys = vs ++ more ∧ more.length ≤ m + 1) : MutS Γ fx n c (m + 1) S σ (upd H a (.lst ys)) F G (upd T a (.lst ys)) := by
  obtain ⟨xs, hT, _, _⟩ := M.gd a vs hG
  obtain ⟨n1, n2, n3⟩ := M.nw a vs hG
  have hH : H a = some (.lst xs) := (M.rel.tmp a _ hT).1
  have hF : F a = none := (M.rel.tmp a _ hT).2
  have ownNe : ∀ {i : Nat} {o : Ov} {b : Bool} {z : Addr}, S[i]? = some (.own o b) → σ[i]? = some (some (.ref z)) → z ≠ a := fun {i o b z} e h q => by
    obtain ⟨w, h1, _, _, h4, _⟩ := M.rel.own i o b e
    rw [h] at h1; cases h1
    subst q
    have h4 : T z = none := h4
    rw [hT] at h4; cases h4
  have hFa : ∀ b o, F b = some o → b ≠ a := fun b o e q => by rw [q, hF] at e; cases e
  refine ⟨?_, fun b us e => ?_, M.gt, M.nw, fun b o e => ?_⟩
  · exact {
      bg := M.rel.bg.write hH nx_lst
      cb := M.rel.cb
      tnx := fun b o e ps z => by
        have e : upd T a (.lst ys) b = some o := e
        by_cases q : b = a
        · rw [q, upd_same] at e; cases e; cases z
        · rw [upd_ne q] at e; exact M.rel.tnx b o e ps z
      fnx := M.rel.fnx
      len := M.rel.len
      val := M.rel.val
      own := fun i o b e => by
        obtain ⟨z, h1, h2, h3, h4, h5⟩ := M.rel.own i o b e
        have ne := ownNe e h1
        refine ⟨z, h1, h2, h3.mono (Ext.refl F) fun u hu => by rw [upd_ne ne]; exact hu, ?_, h5⟩
        show upd T a (.lst ys) z = none
        rw [upd_ne ne]; exact h4
      inj := M.rel.inj
      sub := fun b o e => by rw [upd_ne (hFa b o e)]; exact M.rel.sub b o e
      sub0 := M.rel.sub0
      new := M.rel.new
      frm := fun b o e ht hw => by
        have ne : b ≠ a := fun q => by
          have e : fx.H b = some o := e
          rw [q, n1] at e; cases e
        rw [upd_ne ne]; exact M.rel.frm b o e ht hw
      wth := fun b hb => by
        have ne : b ≠ a := fun q => n2 (by rw [← q]; exact hb)
        rw [upd_ne ne]; exact M.rel.wth b hb
      tmp := fun b o e => by
        have e : upd T a (.lst ys) b = some o := e
        by_cases q : b = a
        · rw [q, upd_same] at e; cases e
          rw [q]; exact ⟨upd_same, hF⟩
        · rw [upd_ne q] at e
          have w := M.rel.tmp b o e
          exact ⟨by rw [upd_ne q]; exact w.1, w.2⟩ }
  · by_cases q : b = a
    · subst q
      rw [hG] at e; cases e
      exact ⟨ys, upd_same, fun z => absurd z hn, hp⟩
    · obtain ⟨vs1, z1, z2, z3⟩ := M.gd b us e
      refine ⟨vs1, by rw [upd_ne q]; exact z1, z2, z3.imp (fun z => ⟨z.1, by omega⟩) fun ⟨more, w1, w2⟩ => ⟨more, w1, by omega⟩⟩
  · have ne : b ≠ a := fun q => by rw [q, n3] at e; cases e
    rw [upd_ne ne]; exact M.t0 b o e
/-- a name is set to something of which nothing is told -/
theorem mut_set (M : MutS Γ fx n c m S σ H F G T) {i : Nat} {x : Option V} (hi : S[i]? = some .no) : MutS Γ fx n c m S (σ.set i x) H F G T := by
  have R : Rel Γ (fx.wT T) (S.set i .no) (σ.set i x) H F := M.rel.setNo
  rw [set_same hi] at R
  exact ⟨R, M.gd, M.gt, M.nw, M.t0⟩
/-- one step on a way: an item of a list or of a tuple -/
noncomputable def Stp (K : PySem.W.Frag) (H : Hp) (v : V) (k : Nat) (w : V) : Prop := ∃ a xs, v = .ref a ∧ (SqL K H a xs ∨ SqT K H a xs) ∧ xs[k]? = some w
/-- no text alone -/
noncomputable def notFrag (c : Str) : List D → Bool
  | [.str x] => !decide (x = c)
  | _ => true
theorem frag_no {ds : List D} {vs : List V} (h : notFrag c ds = true) (r : Reps Γ G ds vs) : ¬ frag c vs := fun q => by
  unfold frag at q
  subst q
  match ds, r with
  | [d], ⟨v, u, e, rd, ru⟩ =>
    cases e
    cases d with
    | str x =>
      have rd : V.str c = V.str x := rd
      cases rd
      simp [notFrag] at h
    | non => cases (show V.str c = V.non from rd)
    | bl b => cases (show V.str c = V.bl b from rd)
    | int i => cases (show V.str c = V.int i from rd)
    | tup _ => obtain ⟨_, _, z, _⟩ := rd; cases z
    | lst _ => obtain ⟨_, _, z, _⟩ := rd; cases z
    | scr _ => obtain ⟨_, _, z, _⟩ := rd; cases z
    | dic _ _ => obtain ⟨_, _, z, _⟩ := rd; cases z
    | clo _ _ => obtain ⟨_, _, z, _⟩ := rd; cases z
    | ins _ _ _ => obtain ⟨_, _, _, z, _⟩ := rd; cases z
    | cls _ => cases (show V.str c = V.ref _ from rd)
  | _ :: _ :: _, ⟨v, u, e, rd, w, t, e2, _⟩ => subst e2; cases e
noncomputable def kid (c : Str) : D → Nat → Option D
  | .lst ds, k => if notFrag c ds then ds[k]? else none
  | .tup ds, k => ds[k]?
  | _, _ => none
theorem mut_step (M : MutS Γ fx n c m S σ H F G T) {d e : D} {v : V} {k : Nat} (r : Rep Γ G d v) (h : kid c d k = some e) : ∃ w, Stp Γ.K H v k w ∧ Rep Γ G e w := by
  unfold kid at h
  split at h
  · rename_i ds _
    split at h
    · rename_i hn
      obtain ⟨a, vs, rfl, hG, rs⟩ := r
      obtain ⟨vs1, hT, _, hp⟩ := M.gd a vs hG
      obtain ⟨more, rfl, _⟩ := hp.resolve_left fun z => frag_no hn rs z.1
      obtain ⟨w, h1, h2⟩ := rs.get h
      refine ⟨w, ⟨a, _, rfl, .inl (SqL.of (M.rel.tmp a _ hT).1), ?_⟩, h2⟩
      rw [List.getElem?_append_left (List.getElem?_eq_some_iff.mp h1).1]
      exact h1
    · cases h
  · rename_i ds _
    obtain ⟨a, vs, rfl, hT, rs⟩ := r
    obtain ⟨w, h1, h2⟩ := rs.get h
    refine ⟨w, ⟨a, vs, rfl, .inr ?_, h1⟩, h2⟩
    rcases hT with (z | ⟨o, z⟩) | z
    · exact .inl (.inl (M.rel.sub a _ (M.gt a _ z fun _ q => nomatch q)))
    · exact .inl (.inr ⟨o, M.rel.sub a _ (M.gt a _ z fun _ q => nomatch q)⟩)
    · exact .inr z
  · cases h
end
theorem atI_nat {α : Type} {xs : List α} {k : Nat} {w : α} (h : xs[k]? = some w) : atI xs (k : Int) = some w := by
  have hl := (List.getElem?_eq_some_iff.mp h).1
  unfold atI ixN
  rw [if_pos (by omega)]
  rw [List.getElem?_eq_getElem hl] at h
  simp [hl, Option.some.inj h]
theorem stp_ix {K : PySem.W.Frag} {H : Hp} {v w : V} {k : Nat} {Q : VK} (h : Stp K H v k w) (q : Q w H) : rIx K v (.int (k : Int)) H Q := by
  obtain ⟨a, xs, rfl, hq, hx⟩ := h
  rcases hq with hq | hq
  · exact .inl ⟨a, xs, _, w, rfl, rfl, hq, atI_nat hx, q⟩
  · exact .inr (.inl ⟨a, xs, _, w, rfl, rfl, hq, atI_nat hx, q⟩)
end G
namespace G
open PySem PySem.Spec PyProof.Rows L2
/-! ### x[k]..[j].append(v), x[k]..[j].clear() -/
/-- the way from a name, its last step first -/
noncomputable def tPath (K : PySem.W.Frag) (i : Nat) : List Nat → TE
  | [] => tVar i
  | k :: r => fun σ H Q => tPath K i r σ H fun x H1 => rIx K x (.int (k : Int)) H1 Q
noncomputable def kidsR (c : Str) (d : D) : List Nat → Option D
  | [] => some d
  | k :: r => (kidsR c d r).bind fun e => kid c e k
section
variable {X : Cx} {e : Expr} {pos : Pos} {i : Nat} {r : List Nat}
theorem pp_var {x : Str} (hN : X.N[i]? = some x := by rfl) (hv : Vis X.env.scope x := by first | exact Or.inl rfl | exact Or.inr (Or.inl rfl) | exact Or.inr (Or.inr rfl)) (hd : (x == ("__debug__" : Str)) = false := by decide) (hcd : (x == ("__classdict__" : Str)) = false := by decide) :
    PE X (.Name x pos) (tPath X.K i []) := pe_var hN hv hd hcd
theorem pp_ix {k : Nat} {j : Nat} {p : Pos} {z : Int} (he : PE X e (tPath X.K i r)) (hz : z = (k : Int) := by rfl) (hs : PlainIx (.Constant (.int z) j p) := by intro _ _; rfl) : PE X (.Subscript e (.Constant (.int z) j p) pos) (tPath X.K i (k :: r)) := by
  subst hz
  exact pe_ix ix_seq he pe_int hs
noncomputable def tApp (K : PySem.W.Frag) (i : Nat) (r : List Nat) (v : V) : TS := fun D σ H => tPath K i r σ H fun x H1 => tyV K "list" x H1 ∧ rAppend x [v] H1 fun _ H2 => D.nx σ H2
noncomputable def tClr (K : PySem.W.Frag) (i : Nat) (r : List Nat) : TS := fun D σ H => tPath K i r σ H fun x H1 => tyV K "list" x H1 ∧ rClear x [] H1 fun _ H2 => D.nx σ H2
theorem ps_app {v : V} {a : Expr} {apos cpos : Pos} (he : PE X e (tPath X.K i r)) (ha : PE X a (tC v)) (hbase : attributeBase e "append" X.env (eval e X.env) = eval e X.env := by rfl)
    (hfew : ((PySem.backTo cpos (starEach [a] X.env)).all (fun x => !x.1) && (backToKw cpos (keywordEach [] X.env)).all (fun x => x.1.isSome)
      && decide (([a] : List Expr).length + ([] : List Keyword).length + (if ([] : List Keyword).isEmpty then 0 else 1) < 30)) = true := by rfl)
    (hline : (apos.endLine == cpos.line) = true := by rfl) (hst : starEach [a] X.env = (false, eval a X.env) :: starEach [] X.env := by rfl) (hplain : (PySem.backTo cpos (starEach [] X.env)).any (·.1) = false := by rfl)
    (hs : swapsWith (.Call (.Attribute e "append" apos) [a] [] cpos) none pos.line X.env = pure false := by rfl) :
    PS X (.Expr (.Call (.Attribute e "append" apos) [a] [] cpos) pos) (tApp X.K i r v) :=
  ps_expr (pe_bm PySem.F.plainAttrs_list PySem.F.slot_list_append PySem.F.type_list_append mt_append he (pa_cons ha pa_nil hst) hbase hfew hline hst hplain) hs
theorem ps_clr {apos cpos : Pos} (he : PE X e (tPath X.K i r)) (hbase : attributeBase e "clear" X.env (eval e X.env) = eval e X.env := by rfl) (hline : (apos.endLine == cpos.line) = true := by rfl)
    (hs : swapsWith (.Call (.Attribute e "clear" apos) [] [] cpos) none pos.line X.env = pure false := by rfl) :
    PS X (.Expr (.Call (.Attribute e "clear" apos) [] [] cpos) pos) (tClr X.K i r) :=
  ps_expr (pe_bm0 PySem.F.plainAttrs_list PySem.F.slot_list_clear PySem.F.type_list_clear mt_clear he hbase hline) hs
end
/-- what is done at the way's end -/
inductive MO where
  | app (v : V)
  | clr
noncomputable def okMut (n : Nat) (c : Str) (d : D) : List Nat × MO → Bool
  | (r, .app _) => match kidsR c d r with
    | some (.lst ds) => !decide (ds.length = n) && decide (ds.length < 100)
    | _ => false
  | (r, .clr) => match kidsR c d r with
    | some (.lst [.str x]) => decide (x = c) && !decide (1 = n)
    | _ => false
noncomputable def tMO (K : PySem.W.Frag) (i : Nat) : List Nat × MO → TS
  | (r, .app v) => tApp K i r v
  | (r, .clr) => tClr K i r
section
variable {Γ : Gam} {fx : Fx} {n m : Nat} {c : Str} {S : Slots} {σ : L2.St} {H F G T : Hp} {d : D} {v : V} {i : Nat}
theorem path_run (M : MutS Γ fx n c m S σ H F G T) (hσ : σ[i]? = some (some v)) (rv : Rep Γ G d v) : ∀ (r : List Nat) (e : D), kidsR c d r = some e → ∃ w, Rep Γ G e w ∧ ∀ Q : VK, Q w H → tPath Γ.K i r σ H Q
  | [], e, h => by
    cases h
    exact ⟨v, rv, fun Q q => ⟨v, hσ, q⟩⟩
  | k :: r, e, h => by
    have h : (kidsR c d r).bind (fun e => kid c e k) = some e := h
    cases q : kidsR c d r with
    | none => rw [q] at h; cases h
    | some d1 =>
      rw [q] at h
      have h : kid c d1 k = some e := h
      obtain ⟨w1, r1, k1⟩ := path_run M hσ rv r d1 q
      obtain ⟨w, st, r2⟩ := mut_step M r1 h
      exact ⟨w, r2, fun Q q => k1 _ (stp_ix st q)⟩
theorem mo_run (M : MutS Γ fx n c m S σ H F G T) (hσ : σ[i]? = some (some v)) (rv : Rep Γ G d v) (hm : m < 1000) {mo : List Nat × MO} (ok : okMut n c d mo = true) {D : Ends} (k : ∀ H1 T1, MutS Γ fx n c (m + 1) S σ H1 F G T1 → D.nx σ H1) : tMO Γ.K i mo D σ H := by
  have sz : (2000 : Nat) < sizeLine := by decide
  obtain ⟨r, mo⟩ := mo
  cases mo with
  | app y =>
    unfold okMut at ok
    simp only [] at ok
    split at ok
    · rename_i ds e
      rw [Bool.and_eq_true] at ok
      obtain ⟨o1, o2⟩ := ok
      obtain ⟨w, rw_, kk⟩ := path_run M hσ rv r _ e
      refine kk _ ?_
      obtain ⟨a, vs, rfl, hG, rs⟩ := rw_
      obtain ⟨vs1, hT, _, hp⟩ := M.gd a vs hG
      have hH := (M.rel.tmp a _ hT).1
      have hl : ds.length < 100 := of_decide_eq_true o2
      have hn : ds.length ≠ n := by simpa using o1
      have lv := rs.len
      have l1 : vs1.length < sizeLine := by
        rcases hp with ⟨q1, q2⟩ | ⟨more, q1, q2⟩
        · omega
        · rw [q1, List.length_append]; omega
      refine ⟨.inl ⟨rfl, vs1, SqL.of hH⟩, a, vs1, y, rfl, rfl, hH, l1, k _ _ (mut_put M hG (by omega) ?_)⟩
      rcases hp with ⟨q1, q2⟩ | ⟨more, q1, q2⟩
      · exact .inl ⟨q1, by rw [List.length_append, List.length_singleton]; omega⟩
      · refine .inr ⟨more ++ [y], by rw [q1, List.append_assoc], by rw [List.length_append, List.length_singleton]; omega⟩
    · cases ok
  | clr =>
    unfold okMut at ok
    simp only [] at ok
    split at ok
    · rename_i x e
      rw [Bool.and_eq_true] at ok
      obtain ⟨o1, o2⟩ := ok
      obtain rfl := of_decide_eq_true o1
      obtain ⟨w, rw_, kk⟩ := path_run M hσ rv r _ e
      refine kk _ ?_
      obtain ⟨a, vs, rfl, hG, rs⟩ := rw_
      obtain ⟨vs1, hT, _, hp⟩ := M.gd a vs hG
      have hH := (M.rel.tmp a _ hT).1
      obtain ⟨y, u, e1, ry, ru⟩ := rs
      have ru : u = [] := ru
      subst ru
      have ry : y = .str x := ry
      subst ry
      subst e1
      have hn : (1 : Nat) ≠ n := by simpa using o2
      exact ⟨.inl ⟨rfl, vs1, SqL.of hH⟩, a, vs1, rfl, rfl, hH, k _ _ (mut_put M hG hn (.inl ⟨rfl, by simp⟩))⟩
    · cases ok
end
/-- several of them -/
inductive MOs (X : Cx) (i : Nat) : List Stmt → List (List Nat × MO) → Prop where
  | nil : MOs X i [] []
  | cons {st : Stmt} {sts : List Stmt} {mo : List Nat × MO} {mos : List (List Nat × MO)} (h : PS X st (tMO X.K i mo)) (t : MOs X i sts mos) : MOs X i (st :: sts) (mo :: mos)
noncomputable def tMOs (K : PySem.W.Frag) (i : Nat) : List (List Nat × MO) → TS → TS
  | [], t => t
  | mo :: mos, t => fun D σ H => tMO K i mo { D with nx := fun σ1 H1 => tMOs K i mos t D σ1 H1 } σ H
theorem mos_ps {X : Cx} {i : Nat} {rest : List Stmt} {t : TS} (hr : PSs X rest t) : ∀ {sts : List Stmt} {mos : List (List Nat × MO)}, MOs X i sts mos → PSs X (sts ++ rest) (tMOs X.K i mos t)
  | _, _, .nil => hr
  | _, _, .cons h tl => pss_cons h (mos_ps hr tl)
section
variable {Γ : Gam} {fx : Fx} {n : Nat} {c : Str} {S : Slots} {σ : L2.St} {F G : Hp} {d : D} {v : V} {i : Nat}
theorem mos_run (hσ : σ[i]? = some (some v)) (rv : Rep Γ G d v) {t : TS} {D : Ends} : ∀ (mos : List (List Nat × MO)) (m : Nat) (H T : Hp), MutS Γ fx n c m S σ H F G T → m + mos.length < 1000 → mos.all (okMut n c d) = true →
    (∀ H1 T1, MutS Γ fx n c (m + mos.length) S σ H1 F G T1 → t D σ H1) → tMOs Γ.K i mos t D σ H
  | [], m, H, T, M, _, _, k => k H T M
  | mo :: mos, m, H, T, M, hm, ok, k => by
    rw [List.all_cons, Bool.and_eq_true] at ok
    have hl : (mo :: mos).length = mos.length + 1 := rfl
    refine mo_run M hσ rv (by omega) ok.1 fun H1 T1 M1 => mos_run hσ rv mos (m + 1) H1 T1 M1 (by omega) ok.2 fun H2 T2 M2 => k H2 T2 ?_
    have e : m + (mo :: mos).length = m + 1 + mos.length := by omega
    rw [e]; exact M2
end
end G
namespace G
open PySem PySem.Spec PyProof.Rows L2
/-! ### x = e; if c: return ..; for y in x: (lists within y change) -/
noncomputable def gTold (i j : Nat) (cs : Str) (g : M Pv) (gc : M Bool) (mos : List (List Nat × MO)) (gr : M Fl) : M Fl := fun S => match g (lockS S) with
  | .ok (pv, _) => (match gvD pv with
    | some (.lst dt) => (match gc (valS (S.set i (.val (.lst dt)))) with
      | .ok (false, _) => if (nsD (.lst dt) && (dt.all fun d => mos.all (okMut dt.length cs d))) && (decide (dt.length < 100) && (decide (mos.length < 9) && (decide (i < S.length) && decide (j < S.length)))) then gr ((S.set i .no).set j .no) else .bad
      | _ => .bad)
    | _ => .bad)
  | _ => .bad
section
variable {Γ : Gam} {fx : Fx} {E : WX} {S : Slots} {σ : L2.St} {H H1 F G : Hp}
theorem Rel.dropS (R : Rel Γ fx S σ H F) (j : Nat) : Rel Γ fx (S.set j .no) σ H F := by
  by_cases hj : j < σ.length
  · have z : Rel Γ fx (S.set j .no) (σ.set j σ[j]) H F := R.setNo
    rwa [set_same (List.getElem?_eq_getElem hj)] at z
  · rw [List.set_eq_of_length_le (by rw [R.len]; omega)]
    exact R
theorem Fresh.keep (fr : Fresh F H G H1) {H2 : Hp} (k : Kp H1 H2) : Fresh F H G H2 := ⟨fun a o e => k.1 a o (fr.sub a o e) (fr.nx a o e).1, fr.lst, fr.new, fr.nx⟩
/-- the loop over the region's list -/
theorem told_loop {cs : Str} {F2 T0 : Hp} {v : V} {dt : List D} {mos : List (List Nat × MO)} {i j : Nat} {D : Ends} (hij : i ≠ j) (M0 : MutS Γ fx dt.length cs 0 S σ H F2 G T0) (hσ : σ[i]? = some (some v)) (rv : Rep Γ G (.lst dt) v) (hj : S[j]? = some .no)
    (ok : (dt.all fun d => mos.all (okMut dt.length cs d)) = true) (h1 : dt.length < 100) (h2 : mos.length < 9) (k : ∀ σ1 H1, Rel Γ fx S σ1 H1 F2 → D.nx σ1 H1) :
    tFor (iList Γ.K (tVar i)) (gName j) (tMOs Γ.K j mos fun D σ H => D.nx σ H) D σ H := by
  obtain ⟨a, vs, rfl, hG, rs⟩ := rv
  have hl := rs.len
  have ex : ∀ {m : Nat} {σ1 : L2.St} {H1 T1 : Hp}, MutS Γ fx dt.length cs m S σ1 H1 F2 G T1 → SqL Γ.K H1 a vs := fun {m σ1 H1 T1} M => by
    obtain ⟨vs1, hT, he, _⟩ := M.gd a vs hG
    rw [he hl.symm] at hT
    exact SqL.of (M.rel.tmp a _ hT).1
  refine ⟨.ref a, hσ, a, rfl, ⟨vs, ex M0⟩, ?_⟩
  refine for_list (K := Γ.K) (a := a) (xs := vs) (fun q σ1 H1 => σ1[i]? = some (some (.ref a)) ∧ ∃ T1, MutS Γ fx dt.length cs (q * mos.length) S σ1 H1 F2 G T1) ⟨hσ, T0, by rw [Nat.zero_mul]; exact M0⟩ (fun q σ1 H1 _ p => ex p.2.choose_spec) (fun q x σ1 H1 hx p => ?_) fun σ1 H1 p => ?_
  · obtain ⟨p1, T1, M1⟩ := p
    have hq : q < vs.length := (List.getElem?_eq_some_iff.mp hx).1
    have hd : dt[q]? = some dt[q] := List.getElem?_eq_getElem (by omega)
    obtain ⟨x1, g1, g2⟩ := rs.get hd
    rw [hx] at g1
    cases g1
    have hjl : j < σ1.length := by rw [← M1.rel.len]; exact (List.getElem?_eq_some_iff.mp hj).1
    have hq2 : q * mos.length ≤ 100 * 9 := Nat.mul_le_mul (by omega) (by omega)
    refine mos_run (List.getElem?_set_self hjl) g2 mos (q * mos.length) H1 T1 (mut_set M1 hj) (by omega) (List.all_eq_true.mp ok _ (List.getElem_mem _)) fun H2 T2 M2 => ?_
    refine ⟨by rw [List.getElem?_set_ne (Ne.symm hij)]; exact p1, T2, ?_⟩
    rw [Nat.succ_mul]
    exact M2
  · obtain ⟨_, T1, M1⟩ := p
    exact k σ1 H1 (mut_end M1)
end
section
variable {Γ : Gam} {fx : Fx} {E : WX} {X : Cx}
theorem gss_told (i j : Nat) {x y : Str} {e c : Expr} {ret body rest : List Stmt} {px px2 py p1 p2 p3 : Pos} {g : M Pv} {gc : M Bool} {mos : List (List Nat × MO)} {gr : M Fl} (cs : Str) (hK : Γ.K = X.K) (hp : PassesOwn (model X.prog X.w) X.A X.env X.xe) (hcm : X.calm = true) (hN : X.N.Nodup)
    (he : ∀ fx, GE Γ fx E0 X e g) (hc : ∀ fx, GT Γ fx E0 X c gc) (hm : MOs X j body mos) (hr : GSs Γ fx E X rest gr) (hij : i ≠ j := by decide) (hi : X.N[i]? = some x := by rfl) (hj : X.N[j]? = some y := by rfl) (hx : X.env.scope.names.lookup x = some .local := by rfl) (hy : X.env.scope.names.lookup y = some .local := by rfl)
    (hs : swapsWith e (some (.Name x px)) p1.line X.env = pure false := by rfl) (hd : (x == ("__debug__" : Str)) = false := by decide) (hcd : (x == ("__classdict__" : Str)) = false := by decide) :
    GSs Γ fx E X (.Assign [.Name x px] e p1 :: .If c ret [] p2 :: .For (.Name y py) (.Name x px2) body [] p3 :: rest) (gTold i j cs g gc mos gr) := by
  have hb : PSs X body (tMOs X.K j mos fun D σ H => D.nx σ H) := by
    have z := mos_ps (pss_nil (X := X)) hm
    rwa [List.append_nil] at z
  refine PSs.weak (pss_cons (ps_set hN hi (.inl hx) (pe_gh he) hs (.inr hx)) (pss_cons (ps_if (pt_rd hc) pss_never pss_nil)
    (pss_cons (ps_for hp hcm (pi_list (pe_var hi (.inl hx) hd hcd)) (pg_name hN hj (.inl hy) (.inr hy)) hb) hr))) fun D σ H ⟨S, F, R, q⟩ => ?_
  unfold gTold at q
  cases eg : g (lockS S) with
  | bad => rw [eg] at q; exact q.elim
  | exc z S1 => rw [eg] at q; exact q.elim
  | ok pr =>
    obtain ⟨pv, S1⟩ := pr
    rw [eg] at q
    simp only [] at q
    split at q
    · rename_i dt ed
      split at q
      · rename_i Sc ec
        split at q
        · rename_i hk
          simp only [Bool.and_eq_true, decide_eq_true_eq] at hk
          obtain ⟨⟨k1, k2⟩, k3, k4, k5, k6⟩ := hk
          refine ⟨fx, S, F, R, pv, S1, .lst dt, eg, ed, k1, fun v H1 G kp bg rp fr => ?_⟩
          have R1 := R.keepH kp.1 kp.2 bg
          obtain ⟨x1, x2, R2⟩ := R.giveG R1 fr.sub fr.new fr.nx
          refine ⟨fx, S.set i (.val (.lst dt)), orH F G, R2.setVal (rp.mono x2), false, _, ec, fun H2 kp2 bg2 => ?_⟩
          have R0b : Rel Γ fx ((S.set i .no).set j .no) (σ.set i (some v)) H F := Rel.dropS R.setNo j
          have R1b : Rel Γ fx ((S.set i .no).set j .no) (σ.set i (some v)) H1 F := Rel.dropS R1.setNo j
          have R3 := R1b.keepH kp2.1 kp2.2 bg2
          obtain ⟨F2, xF, M0⟩ := mut_begin (n := dt.length) (c := cs) R0b R3 (fr.keep kp2)
          have li : i < σ.length := by rw [← R.len]; exact k5
          show tFor (iList X.K (tVar i)) (gName j) (tMOs X.K j mos fun D σ H => D.nx σ H) _ _ _
          rw [← hK]
          refine told_loop hij M0 (List.getElem?_set_self li) rp (by rw [List.getElem?_set_self (by rw [List.length_set]; exact k6)]) k2 k3 k4 fun σ3 H3 R4 => ?_
          exact ⟨_, F2, R4, PostS.mono xF q⟩
        · exact q.elim
      · exact q.elim
    · exact q.elim
end
end G
namespace G
open PySem PySem.Spec PyProof.Rows L2
/-! ### x, y = e1, e2; z = e3; (lists within x change) -/
noncomputable def gRowsA (i j l : Nat) (cs : Str) (g1 g2 g3 : M Pv) (mos : List (List Nat × MO)) (gr : M Fl) : M Fl := fun S => match g1 (lockS S), g2 (lockS S) with
  | .ok (pv1, _), .ok (pv2, _) => (match gvD pv1, gvD pv2 with
    | some d1, some d2 => (match g3 (lockS (((S.set i .no).set j (.val d2)).set i (.val d1))) with
      | .ok (pv3, _) => (match gvD pv3 with
        | some d3 => if (nsD d1 && (nsD d2 && nsD d3)) && (mos.all (okMut 1000 cs d1) && (decide (mos.length < 100) && decide (i < S.length))) then gr (((S.set i .no).set j (.val d2)).set l (.val d3)) else .bad
        | none => .bad)
      | _ => .bad)
    | _, _ => .bad)
  | _, _ => .bad
section
variable {Γ : Gam} {fx : Fx} {n m : Nat} {c : Str} {S S1 : Slots} {σ σ1 : L2.St} {H H1 F F1 G T : Hp}
theorem orH_or {a : Addr} {o : HO} (e : orH F G a = some o) : F a = some o ∨ G a = some o := by
  unfold orH at e
  cases q : F a with
  | some u => rw [q] at e; exact .inl e
  | none => rw [q] at e; exact .inr e
theorem MutS.up (M : MutS Γ fx n c m S σ H F G T) (R : Rel Γ (fx.wT T) S1 σ1 H1 F1) (x : Ext F F1) : MutS Γ fx n c m S1 σ1 H1 F1 G T := ⟨R, M.gd, fun a o e q => x a o (M.gt a o e q), M.nw, M.t0⟩
/-- the region is read again -/
theorem mut_read (M : MutS Γ fx n c m S σ H F G (lsT fx.T G)) (hx : ∀ a o, G a = some o → NX o) : Ext F (orH F G) ∧ Ext G (orH F G) ∧ Rel Γ fx S σ H (orH F G) := by
  have R := mut_end M
  have hL : ∀ a vs, G a = some (.lst vs) → H a = some (.lst vs) ∧ F a = none := fun a vs e => M.rel.tmp a _ (lsT_lst e)
  have e1 : Ext F (orH F G) := fun a o e => by unfold orH; simp only [e]
  have key : ∀ a o, orH F G a = some o → F a = some o ∨ ∃ vs, o = .lst vs ∧ G a = some (.lst vs) := fun a o e => by
    unfold orH at e
    cases q : F a with
    | some u => rw [q] at e; exact .inl e
    | none =>
      rw [q] at e
      by_cases z : ∃ vs, o = .lst vs
      · obtain ⟨vs, rfl⟩ := z
        exact .inr ⟨vs, rfl, e⟩
      · have w := M.gt a o e fun vs y => z ⟨vs, y⟩
        rw [q] at w; cases w
  have e2 : Ext G (orH F G) := fun a o e => by
    unfold orH
    cases q : F a with
    | none => exact e
    | some u =>
      by_cases z : ∃ vs, o = .lst vs
      · obtain ⟨vs, rfl⟩ := z
        rw [(hL a vs e).2] at q; cases q
      · have w := M.gt a o e fun vs y => z ⟨vs, y⟩
        rw [q] at w; exact w
  refine ⟨e1, e2, {
    bg := R.bg
    cb := R.cb
    tnx := R.tnx
    fnx := fun a o e => (key a o e).elim (R.fnx a o) fun ⟨vs, z, _⟩ => by rw [z]; exact nx_lst
    len := R.len
    val := fun i d e => by obtain ⟨v, h1, r⟩ := R.val i d e; exact ⟨v, h1, r.mono e1⟩
    own := fun i o b e => by
      obtain ⟨a, h1, h2, h3, h4⟩ := R.own i o b e
      obtain ⟨a2, g1, _, _, g4, _⟩ := M.rel.own i o b e
      rw [h1] at g1; cases g1
      refine ⟨a, h1, ?_, h3.mono e1 fun _ z => z, h4⟩
      cases q : orH F G a with
      | none => rfl
      | some u =>
        rcases key a u q with z | ⟨vs, _, z⟩
        · rw [h2] at z; cases z
        · have g4 : lsT fx.T G a = none := g4
          rw [lsT_lst z] at g4; cases g4
    inj := R.inj
    sub := fun a o e => (key a o e).elim (R.sub a o) fun ⟨vs, z, w⟩ => by rw [z]; exact (hL a vs w).1
    sub0 := R.sub0.trans e1
    new := fun a o e => (key a o e).elim (R.new a o) fun ⟨vs, _, w⟩ => .inr (.inl (M.nw a vs w).1)
    frm := R.frm
    wth := R.wth
    tmp := fun a o e => by
      refine ⟨(R.tmp a o e).1, ?_⟩
      cases q : orH F G a with
      | none => rfl
      | some u =>
        rcases key a u q with z | ⟨vs, _, z⟩
        · have w := (R.tmp a o e).2; rw [w] at z; cases z
        · have w := (M.nw a vs z).2.2; rw [w] at e; cases e }⟩
end
section
variable {Γ : Gam} {fx : Fx} {E : WX} {X : Cx}
theorem gss_rowsA (i j l n : Nat) {x y z : Str} {ea eb e3 : Expr} {tl : List Stmt} {px py pt pt2 pz p1 p2 : Pos} {kt k2 : Nat} {g1 g2 g3 : M Pv} {mos : List (List Nat × MO)} {gr : M Fl} (cs : Str) (hK : Γ.K = X.K) (hcm : X.calm = true) (hN : X.N.Nodup)
    (h1 : ∀ fx, GE Γ fx E0 X ea g1) (h2 : ∀ fx, GE Γ fx E0 X eb g2) (h3 : ∀ fx, GE Γ fx E0 X e3 g3) (hm : MOs X i (tl.take n) mos) (hr : GSs Γ fx E X (tl.drop n) gr) (hij : i ≠ j := by decide) (hil : i ≠ l := by decide)
    (hi : X.N[i]? = some x := by rfl) (hj : X.N[j]? = some y := by rfl) (hl : X.N[l]? = some z := by rfl) (hx : X.env.scope.names.lookup x = some .local := by rfl) (hy : X.env.scope.names.lookup y = some .local := by rfl) (hz : X.env.scope.names.lookup z = some .local := by rfl)
    (hw : swappedStores [.Tuple [.Name x px, .Name y py] kt pt] (.Tuple [ea, eb] k2 pt2) X.env = pure (some [x, y]) := by rfl)
    (hs : swapsWithSole [.Tuple [.Name x px, .Name y py] kt pt] (.Tuple [ea, eb] k2 pt2) p1.line X.env = pure false := by rfl)
    (hs3 : swapsWith e3 (some (.Name z pz)) p2.line X.env = pure false := by rfl) (n1 : starEach [ea, eb] X.env = (false, eval ea X.env) :: starEach [eb] X.env := by rfl) (n2 : starEach [eb] X.env = (false, eval eb X.env) :: starEach [] X.env := by rfl) :
    GSs Γ fx E X (.Assign [.Tuple [.Name x px, .Name y py] kt pt] (.Tuple [ea, eb] k2 pt2) p1 :: .Assign [.Name z pz] e3 p2 :: tl) (gRowsA i j l cs g1 g2 g3 mos gr) := by
  have htl := mos_ps hr hm
  rw [List.take_append_drop] at htl
  refine PSs.weak (pss_cons (ps_par hcm hN hi hj hij hx hy (pa_cons (pe_gh h1) (pa_cons (pe_gh h2) pa_nil n2) n1) hw hs) (pss_cons (ps_set hN hl (.inl hz) (pe_gh h3) hs3 (.inr hz)) htl)) fun D σ H ⟨S, F, R, q⟩ => ?_
  unfold gRowsA at q
  split at q
  · rename_i pv1 Sa pv2 Sb ea1 eb1
    split at q
    · rename_i d1 d2 ed1 ed2
      split at q
      · rename_i pv3 Sc ec
        split at q
        · rename_i d3 ed3
          split at q
          · rename_i hk
            simp only [Bool.and_eq_true, decide_eq_true_eq] at hk
            obtain ⟨⟨k1, k2, k3⟩, k4, k5, k6⟩ := hk
            refine ⟨fx, S, F, R, pv1, Sa, d1, ea1, ed1, k1, fun v1 H1 G1 kp1 bg1 rp1 fr1 => ?_⟩
            have R1 := R.keepH kp1.1 kp1.2 bg1
            refine ⟨fx, S, F, R1, pv2, Sb, d2, eb1, ed2, k2, fun v2 H2 G2 kp2 bg2 rp2 fr2 => ?_⟩
            obtain ⟨F2, xF, M1⟩ := mut_begin (n := 1000) (c := cs) R R1 fr1
            have R2 : Rel Γ (fx.wT (lsT fx.T G1)) S σ H2 F2 := M1.rel.keepH kp2.1 kp2.2 bg2
            obtain ⟨x4, y4, R4⟩ := M1.rel.giveG R2 fr2.sub (fun a o e => (fr2.new a o e).imp (xF a o) id) fr2.nx
            have R4a : Rel Γ (fx.wT (lsT fx.T G1)) ((S.set i .no).set j (.val d2)) ((σ.set i (some v1)).set j (some v2)) H2 (orH F2 G2) := (R4.setNo).setVal (rp2.mono y4)
            have M4 := M1.up R4a x4
            have li : i < σ.length := by rw [← R.len]; exact k6
            have s1i : ((σ.set i (some v1)).set j (some v2))[i]? = some (some v1) := by
              rw [List.getElem?_set_ne (Ne.symm hij)]; exact List.getElem?_set_self li
            refine ⟨v1, v2, rfl, ?_⟩
            obtain ⟨x5, y5, R5⟩ := mut_read M4 fr1.nx
            have R5a := R5.setVal (i := i) (rp1.mono y5)
            rw [set_same s1i] at R5a
            refine ⟨fx, _, _, R5a, pv3, Sc, d3, ec, ed3, k3, fun v3 H3 G3 kp3 bg3 rp3 fr3 => ?_⟩
            have R6 : Rel Γ (fx.wT (lsT fx.T G1)) ((S.set i .no).set j (.val d2)) ((σ.set i (some v1)).set j (some v2)) H3 (orH F2 G2) := R4a.keepH kp3.1 kp3.2 bg3
            have nw3 : ∀ a o, G3 a = some o → orH F2 G2 a = some o ∨ H2 a = none := fun a o e => by
              rcases fr3.new a o e with w | w
              · rcases orH_or w with w | w
                · exact .inl w
                · by_cases zz : ∃ vs, o = .lst vs
                  · obtain ⟨vs, rfl⟩ := zz
                    exact .inr (fr3.lst a vs e)
                  · exact .inl (M4.gt a o w fun vs yy => zz ⟨vs, yy⟩)
              · exact .inr w
            obtain ⟨x7, y7, R7⟩ := R4a.giveG R6 fr3.sub nw3 fr3.nx
            have R7a := R7.setVal (i := l) (rp3.mono y7)
            have M7 := M4.up R7a x7
            have s2i : (((σ.set i (some v1)).set j (some v2)).set l (some v3))[i]? = some (some v1) := by
              rw [List.getElem?_set_ne (Ne.symm hil)]; exact s1i
            show tMOs X.K i mos _ _ _ _
            rw [← hK]
            refine mos_run s2i rp1 mos 0 H3 _ M7 (by omega) k4 fun H8 T8 M8 => ?_
            exact ⟨_, _, mut_end M8, PostS.mono (xF.trans (x4.trans x7)) q⟩
          · exact q.elim
        · exact q.elim
      · exact q.elim
    · exact q.elim
  · exact q.elim
end
end G
namespace Lw
open PySem PySem.Spec PyProof.Rows L2 G
open He (ga ma)
set_option maxHeartbeats 0
noncomputable def top (i : Nat) : Stmt := PySem.Challenge.pw_worntally_k75_lists_within_lists.main.body.getD i (.Pass ⟨0, 0, 0, 0⟩)
noncomputable abbrev s_law_bag : Stmt := top 22
noncomputable abbrev s_law_take : Stmt := top 23
noncomputable abbrev s_is_listed : Stmt := top 2
noncomputable abbrev s_copy_of : Stmt := top 6
noncomputable abbrev s_row_copy : Stmt := top 7
noncomputable abbrev s_Least_init : Stmt := inClass (top 20) 1
noncomputable abbrev s_Unlike_init : Stmt := inClass (top 18) 1
noncomputable abbrev s_Alike_init : Stmt := inClass (top 17) 1
noncomputable abbrev s_Uneven_init : Stmt := inClass (top 15) 1
noncomputable abbrev s_Even_init : Stmt := inClass (top 14) 1
noncomputable abbrev s_Endless_init : Stmt := inClass (top 12) 1
noncomputable abbrev s_Bounded_init : Stmt := inClass (top 11) 1
noncomputable abbrev s_Harmed_init : Stmt := inClass (top 9) 1
noncomputable abbrev s_Safe_init : Stmt := inClass (top 8) 1
noncomputable abbrev s_Least_foes : Stmt := inClass (top 20) 3
noncomputable abbrev s_Unlike_heard : Stmt := inClass (top 18) 2
noncomputable abbrev s_Alike_pairs : Stmt := inClass (top 17) 2
noncomputable abbrev s_Uneven_ring : Stmt := inClass (top 15) 3
noncomputable abbrev s_Uneven_lead : Stmt := inClass (top 15) 2
noncomputable abbrev s_Even_events : Stmt := inClass (top 14) 3
noncomputable abbrev s_Endless_tail : Stmt := inClass (top 12) 4
noncomputable abbrev s_Endless_ring : Stmt := inClass (top 12) 3
noncomputable abbrev s_Endless_lead : Stmt := inClass (top 12) 2
noncomputable abbrev s_Bounded_heights : Stmt := inClass (top 11) 5
noncomputable abbrev s_Bounded_standings : Stmt := inClass (top 11) 4
noncomputable abbrev s_Bounded_events : Stmt := inClass (top 11) 3
noncomputable abbrev s_Harmed_events : Stmt := inClass (top 9) 2
noncomputable abbrev s_Safe_table : Stmt := inClass (top 8) 2
noncomputable abbrev s_law_same : Stmt := top 24
noncomputable abbrev s_law : Stmt := top 25
noncomputable def gmC (K : PySem.W.Frag) : Nat → Addr
  | 40 => ga K "Paper"
  | 41 => ga K "Safe"
  | 42 => ga K "Harmed"
  | 43 => ga K "Bounded"
  | 44 => ga K "Endless"
  | 45 => ga K "Even"
  | 46 => ga K "Uneven"
  | 47 => ga K "Alike"
  | 48 => ga K "Unlike"
  | 49 => ga K "Least"
  | _ => 0
noncomputable def tfs (K : PySem.W.Frag) : List Addr := []
noncomputable def d_law_bag : He5.DefA := ⟨fun K => (ga K "_law_bag"), "_law_bag", "_law_bag", defArgs s_law_bag, defBody s_law_bag, defScope s_law_bag, [], []⟩
noncomputable def d_law_take : He5.DefA := ⟨fun K => (ga K "_law_take"), "_law_take", "_law_take", defArgs s_law_take, defBody s_law_take, defScope s_law_take, [], []⟩
noncomputable def d_is_listed : He5.DefA := ⟨fun K => (ga K "is_listed"), "is_listed", "is_listed", defArgs s_is_listed, defBody s_is_listed, defScope s_is_listed, [], []⟩
noncomputable def d_copy_of : He5.DefA := ⟨fun K => (ga K "copy_of"), "copy_of", "copy_of", defArgs s_copy_of, defBody s_copy_of, defScope s_copy_of, [], []⟩
noncomputable def d_row_copy : He5.DefA := ⟨fun K => (ga K "row_copy"), "row_copy", "row_copy", defArgs s_row_copy, defBody s_row_copy, defScope s_row_copy, [], []⟩
noncomputable def d_Least_init : He5.DefA := ⟨fun K => (ma K (ga K "Least") "__init__"), "__init__", "Least.__init__", defArgs s_Least_init, defBody s_Least_init, defScope s_Least_init, [], []⟩
noncomputable def d_Unlike_init : He5.DefA := ⟨fun K => (ma K (ga K "Unlike") "__init__"), "__init__", "Unlike.__init__", defArgs s_Unlike_init, defBody s_Unlike_init, defScope s_Unlike_init, [], []⟩
noncomputable def d_Alike_init : He5.DefA := ⟨fun K => (ma K (ga K "Alike") "__init__"), "__init__", "Alike.__init__", defArgs s_Alike_init, defBody s_Alike_init, defScope s_Alike_init, [], []⟩
noncomputable def d_Uneven_init : He5.DefA := ⟨fun K => (ma K (ga K "Uneven") "__init__"), "__init__", "Uneven.__init__", defArgs s_Uneven_init, defBody s_Uneven_init, defScope s_Uneven_init, [], []⟩
noncomputable def d_Even_init : He5.DefA := ⟨fun K => (ma K (ga K "Even") "__init__"), "__init__", "Even.__init__", defArgs s_Even_init, defBody s_Even_init, defScope s_Even_init, [], []⟩
noncomputable def d_Endless_init : He5.DefA := ⟨fun K => (ma K (ga K "Endless") "__init__"), "__init__", "Endless.__init__", defArgs s_Endless_init, defBody s_Endless_init, defScope s_Endless_init, [], []⟩
noncomputable def d_Bounded_init : He5.DefA := ⟨fun K => (ma K (ga K "Bounded") "__init__"), "__init__", "Bounded.__init__", defArgs s_Bounded_init, defBody s_Bounded_init, defScope s_Bounded_init, [], []⟩
noncomputable def d_Harmed_init : He5.DefA := ⟨fun K => (ma K (ga K "Harmed") "__init__"), "__init__", "Harmed.__init__", defArgs s_Harmed_init, defBody s_Harmed_init, defScope s_Harmed_init, [], []⟩
noncomputable def d_Safe_init : He5.DefA := ⟨fun K => (ma K (ga K "Safe") "__init__"), "__init__", "Safe.__init__", defArgs s_Safe_init, defBody s_Safe_init, defScope s_Safe_init, [], []⟩
noncomputable def d_Least_foes : He5.DefA := ⟨fun K => (ma K (ga K "Least") "foes"), "foes", "Least.foes", defArgs s_Least_foes, defBody s_Least_foes, defScope s_Least_foes, [], []⟩
noncomputable def d_Unlike_heard : He5.DefA := ⟨fun K => (ma K (ga K "Unlike") "heard"), "heard", "Unlike.heard", defArgs s_Unlike_heard, defBody s_Unlike_heard, defScope s_Unlike_heard, [], []⟩
noncomputable def d_Alike_pairs : He5.DefA := ⟨fun K => (ma K (ga K "Alike") "pairs"), "pairs", "Alike.pairs", defArgs s_Alike_pairs, defBody s_Alike_pairs, defScope s_Alike_pairs, [], []⟩
noncomputable def d_Uneven_ring : He5.DefA := ⟨fun K => (ma K (ga K "Uneven") "ring"), "ring", "Uneven.ring", defArgs s_Uneven_ring, defBody s_Uneven_ring, defScope s_Uneven_ring, [], []⟩
noncomputable def d_Uneven_lead : He5.DefA := ⟨fun K => (ma K (ga K "Uneven") "lead"), "lead", "Uneven.lead", defArgs s_Uneven_lead, defBody s_Uneven_lead, defScope s_Uneven_lead, [], []⟩
noncomputable def d_Even_events : He5.DefA := ⟨fun K => (ma K (ga K "Even") "events"), "events", "Even.events", defArgs s_Even_events, defBody s_Even_events, defScope s_Even_events, [], []⟩
noncomputable def d_Endless_tail : He5.DefA := ⟨fun K => (ma K (ga K "Endless") "tail"), "tail", "Endless.tail", defArgs s_Endless_tail, defBody s_Endless_tail, defScope s_Endless_tail, [], []⟩
noncomputable def d_Endless_ring : He5.DefA := ⟨fun K => (ma K (ga K "Endless") "ring"), "ring", "Endless.ring", defArgs s_Endless_ring, defBody s_Endless_ring, defScope s_Endless_ring, [], []⟩
noncomputable def d_Endless_lead : He5.DefA := ⟨fun K => (ma K (ga K "Endless") "lead"), "lead", "Endless.lead", defArgs s_Endless_lead, defBody s_Endless_lead, defScope s_Endless_lead, [], []⟩
noncomputable def d_Bounded_heights : He5.DefA := ⟨fun K => (ma K (ga K "Bounded") "heights"), "heights", "Bounded.heights", defArgs s_Bounded_heights, defBody s_Bounded_heights, defScope s_Bounded_heights, [], []⟩
noncomputable def d_Bounded_standings : He5.DefA := ⟨fun K => (ma K (ga K "Bounded") "standings"), "standings", "Bounded.standings", defArgs s_Bounded_standings, defBody s_Bounded_standings, defScope s_Bounded_standings, [], []⟩
noncomputable def d_Bounded_events : He5.DefA := ⟨fun K => (ma K (ga K "Bounded") "events"), "events", "Bounded.events", defArgs s_Bounded_events, defBody s_Bounded_events, defScope s_Bounded_events, [], []⟩
noncomputable def d_Harmed_events : He5.DefA := ⟨fun K => (ma K (ga K "Harmed") "events"), "events", "Harmed.events", defArgs s_Harmed_events, defBody s_Harmed_events, defScope s_Harmed_events, [], []⟩
noncomputable def d_Safe_table : He5.DefA := ⟨fun K => (ma K (ga K "Safe") "table"), "table", "Safe.table", defArgs s_Safe_table, defBody s_Safe_table, defScope s_Safe_table, [], []⟩
noncomputable def d_law_same : He5.DefA := ⟨fun K => (ga K "_law_same"), "_law_same", "_law_same", defArgs s_law_same, defBody s_law_same, defScope s_law_same, [], []⟩
noncomputable def d_law : He5.DefA := ⟨fun K => (ga K "law"), "law", "law", defArgs s_law, defBody s_law, defScope s_law, [], []⟩
noncomputable def fa : List He.Fa := [.free "all", .free "bool", .free "int", .free "isinstance", .free "len", .free "list", .free "range", .free "str", .free "tuple", .glo "_law_bag", .glo "_law_same", .glo "_law_take", .glo "copy_of", .glo "is_listed", .glo "law", .glo "row_copy", .cls "Alike", .cls "Bounded", .cls "Endless", .cls "Even", .cls "Harmed", .cls "Least", .cls "Safe", .cls "Uneven", .cls "Unlike", .glo "Alike", .glo "Bounded", .glo "Endless", .glo "Even", .glo "Harmed", .glo "Least", .glo "Safe", .glo "Uneven", .glo "Unlike", .meth "Alike" "pairs", .meth "Bounded" "events", .meth "Bounded" "heights", .meth "Bounded" "standings", .meth "Endless" "lead", .meth "Endless" "ring", .meth "Endless" "tail", .meth "Even" "events", .meth "Harmed" "events", .meth "Least" "foes", .meth "Safe" "table", .meth "Uneven" "lead", .meth "Uneven" "ring", .meth "Unlike" "heard", .mkr "Alike", .mkr "Bounded", .mkr "Endless", .mkr "Even", .mkr "Harmed", .mkr "Least", .mkr "Safe", .mkr "Uneven", .mkr "Unlike", .noat "Alike" "own_pairs", .noat "Bounded" "own_events", .noat "Bounded" "own_heights", .noat "Bounded" "own_most", .noat "Bounded" "own_standings", .noat "Endless" "own_parts", .noat "Even" "own_events", .noat "Even" "own_most", .noat "Harmed" "own_events", .noat "Least" "own_foes", .noat "Least" "own_size", .noat "Safe" "own_table", .noat "Uneven" "own_parts", .noat "Unlike" "own_heard"]
noncomputable def fn : List He5.DefA := [d_law_bag, d_law_take, d_is_listed, d_copy_of, d_row_copy, d_Least_init, d_Unlike_init, d_Alike_init, d_Uneven_init, d_Even_init, d_Endless_init, d_Bounded_init, d_Harmed_init, d_Safe_init, d_Least_foes, d_Unlike_heard, d_Alike_pairs, d_Uneven_ring, d_Uneven_lead, d_Even_events, d_Endless_tail, d_Endless_ring, d_Endless_lead, d_Bounded_heights, d_Bounded_standings, d_Bounded_events, d_Harmed_events, d_Safe_table, d_law_same, d_law]
noncomputable def ex (K : PySem.W.Frag) : Bool := [].all id
noncomputable def ts : List Tb := []
noncomputable def loose : List Str := (["_wall", "is_listed", "MOST_STANDINGS"] : List Str) ++ (["Paper", "copy_of", "row_copy"] : List Str) ++ (["Safe", "Harmed", "Bounded"] : List Str) ++ (["Endless", "Even", "Uneven"] : List Str) ++ (["Alike", "Unlike", "Least"] : List Str) ++ (["_law_bag", "_law_take", "_law_same"] : List Str)
noncomputable abbrev R : PySem.W.OpenRow := PySem.W.OpenLaw.row PySem.Challenge.rw_worntally_k75_lists_within_lists
noncomputable abbrev hk : PySem.W.Hook := hookL 6 fa fn ex ts tfs
noncomputable def ob (s : PySem.W.SharedT) : AlL := obsL 6 fa fn ex ts tfs (HandSHeadRun.getT s)
theorem ob_eq (s : PySem.W.SharedT) : ob s = hk.obs s.abs := obsL_eq (HandSHeadRun.getT_eq s)
theorem run (w : World) : HandSHeadRun.RunEq R (PySem.W.view R.prog [25]) hk ob 12000 loose w := by
  intro os
  kernel_rfl
end Lw
set_option maxHeartbeats 4000000
namespace Lw
open PySem G
theorem eq_str {x y : Str} {K : Pv → Prop} (hx : PyData.strOk x = true) (hy : PyData.strOk y = true) : WL (oEq (.str x) (.str y)) K = K (.dat (.bl (decide (x = y)))) := by
  have h : Dt 0 (fun a : {z : Str // PyData.strOk z = true} => D.str a.1) := Dt.str (fun a => a.2) fun a b e => Subtype.ext e
  rw [h.oEq (a := ⟨x, hx⟩) (b := ⟨y, hy⟩) (by decide)]
  simp only [Subtype.mk.injEq]
theorem ne_str {x y : Str} {K : Pv → Prop} (hx : PyData.strOk x = true) (hy : PyData.strOk y = true) : WL (oNe (.str x) (.str y)) K = K (.dat (.bl (!decide (x = y)))) := by
  have h : Dt 0 (fun a : {z : Str // PyData.strOk z = true} => D.str a.1) := Dt.str (fun a => a.2) fun a b e => Subtype.ext e
  rw [h.oNe (a := ⟨x, hx⟩) (b := ⟨y, hy⟩) (by decide)]
  simp only [Subtype.mk.injEq]
inductive Part where
  | number | mark | inverse | check
deriving DecidableEq, Inhabited
noncomputable def Part.s : Part → Str
  | .number => "number"
  | .mark => "mark"
  | .inverse => "inverse"
  | .check => "check"
noncomputable def pd (p : Part) : D := .str p.s
theorem pd_dt : Dt 0 pd := Dt.str (fun a => by cases a <;> decide +kernel) fun a b h => by cases a <;> cases b <;> first | rfl | (exfalso; revert h; decide +kernel)
theorem ty_pd {p : Part} {K : Ty → Prop} : WL (tyD (pd p)) K = K .str := id rfl
theorem eq_pd {a : Part} {b : Part} {K : Pv → Prop} : WL (oEq (pd a) (pd b)) K = K (.dat (.bl (decide (a = b)))) := pd_dt.oEq (by decide)
theorem ne_pd {a : Part} {b : Part} {K : Pv → Prop} : WL (oNe (pd a) (pd b)) K = K (.dat (.bl (!decide (a = b)))) := pd_dt.oNe (by decide)
theorem eql_pd {l : List Part} {r : List Part} {K : Pv → Prop} : WL (oEq (.lst (l.map pd)) (.lst (r.map pd))) K = K (.dat (.bl (decide (l = r)))) := pd_dt.oEqL (by decide)
theorem eqn_pd {l : List Part} {K : Pv → Prop} : WL (oEq (.lst (l.map pd)) (.lst [])) K = K (.dat (.bl (decide (l = [])))) := pd_dt.oEqN (by decide)
theorem nel_pd {l : List Part} {r : List Part} {K : Pv → Prop} : WL (oNe (.lst (l.map pd)) (.lst (r.map pd))) K = K (.dat (.bl (!decide (l = r)))) := pd_dt.oNeL (by decide)
theorem nen_pd {l : List Part} {K : Pv → Prop} : WL (oNe (.lst (l.map pd)) (.lst [])) K = K (.dat (.bl (!decide (l = [])))) := pd_dt.oNeN (by decide)
theorem inlst_pd {a : Part} {l : List Part} {K : Pv → Prop} : WL (oIn (pd a) (.lst (l.map pd))) K = K (.dat (.bl (decide (a ∈ l)))) := pd_dt.oInL (by decide)
theorem nilst_pd {a : Part} {l : List Part} {K : Pv → Prop} : WL (oNotIn (pd a) (.lst (l.map pd))) K = K (.dat (.bl (!decide (a ∈ l)))) := pd_dt.oNotInL (by decide)
theorem intup_pd {a : Part} {l : List Part} {K : Pv → Prop} : WL (oIn (pd a) (.tup (l.map pd))) K = K (.dat (.bl (decide (a ∈ l)))) := pd_dt.oInT (by decide)
theorem nitup_pd {a : Part} {l : List Part} {K : Pv → Prop} : WL (oNotIn (pd a) (.tup (l.map pd))) K = K (.dat (.bl (!decide (a ∈ l)))) := pd_dt.oNotInT (by decide)
theorem idx_pd_number {l : List Part} {k : List D → D → Prop} (h : .number ∈ l) : LMK (lmIndex (l.map pd) [.str "number"]) k = k (l.map pd) (.int (l.idxOf .number : Nat)) := pd_dt.idx (a := .number) (by decide) h
theorem eq_pd_number {a : Part} {K : Pv → Prop} : WL (oEq (pd a) (.str "number")) K = K (.dat (.bl (decide (a = .number)))) := eq_pd (b := .number)
theorem ne_pd_number {a : Part} {K : Pv → Prop} : WL (oNe (pd a) (.str "number")) K = K (.dat (.bl (!decide (a = .number)))) := ne_pd (b := .number)
theorem inlst_pd_number {l : List Part} {K : Pv → Prop} : WL (oIn (.str "number") (.lst (l.map pd))) K = K (.dat (.bl (decide (.number ∈ l)))) := inlst_pd (a := .number)
theorem nilst_pd_number {l : List Part} {K : Pv → Prop} : WL (oNotIn (.str "number") (.lst (l.map pd))) K = K (.dat (.bl (!decide (.number ∈ l)))) := nilst_pd (a := .number)
theorem intup_pd_number {l : List Part} {K : Pv → Prop} : WL (oIn (.str "number") (.tup (l.map pd))) K = K (.dat (.bl (decide (.number ∈ l)))) := intup_pd (a := .number)
theorem nitup_pd_number {l : List Part} {K : Pv → Prop} : WL (oNotIn (.str "number") (.tup (l.map pd))) K = K (.dat (.bl (!decide (.number ∈ l)))) := nitup_pd (a := .number)
theorem idx_pd_mark {l : List Part} {k : List D → D → Prop} (h : .mark ∈ l) : LMK (lmIndex (l.map pd) [.str "mark"]) k = k (l.map pd) (.int (l.idxOf .mark : Nat)) := pd_dt.idx (a := .mark) (by decide) h
theorem eq_pd_mark {a : Part} {K : Pv → Prop} : WL (oEq (pd a) (.str "mark")) K = K (.dat (.bl (decide (a = .mark)))) := eq_pd (b := .mark)
theorem ne_pd_mark {a : Part} {K : Pv → Prop} : WL (oNe (pd a) (.str "mark")) K = K (.dat (.bl (!decide (a = .mark)))) := ne_pd (b := .mark)
theorem inlst_pd_mark {l : List Part} {K : Pv → Prop} : WL (oIn (.str "mark") (.lst (l.map pd))) K = K (.dat (.bl (decide (.mark ∈ l)))) := inlst_pd (a := .mark)
theorem nilst_pd_mark {l : List Part} {K : Pv → Prop} : WL (oNotIn (.str "mark") (.lst (l.map pd))) K = K (.dat (.bl (!decide (.mark ∈ l)))) := nilst_pd (a := .mark)
theorem intup_pd_mark {l : List Part} {K : Pv → Prop} : WL (oIn (.str "mark") (.tup (l.map pd))) K = K (.dat (.bl (decide (.mark ∈ l)))) := intup_pd (a := .mark)
theorem nitup_pd_mark {l : List Part} {K : Pv → Prop} : WL (oNotIn (.str "mark") (.tup (l.map pd))) K = K (.dat (.bl (!decide (.mark ∈ l)))) := nitup_pd (a := .mark)
theorem idx_pd_inverse {l : List Part} {k : List D → D → Prop} (h : .inverse ∈ l) : LMK (lmIndex (l.map pd) [.str "inverse"]) k = k (l.map pd) (.int (l.idxOf .inverse : Nat)) := pd_dt.idx (a := .inverse) (by decide) h
theorem eq_pd_inverse {a : Part} {K : Pv → Prop} : WL (oEq (pd a) (.str "inverse")) K = K (.dat (.bl (decide (a = .inverse)))) := eq_pd (b := .inverse)
theorem ne_pd_inverse {a : Part} {K : Pv → Prop} : WL (oNe (pd a) (.str "inverse")) K = K (.dat (.bl (!decide (a = .inverse)))) := ne_pd (b := .inverse)
theorem inlst_pd_inverse {l : List Part} {K : Pv → Prop} : WL (oIn (.str "inverse") (.lst (l.map pd))) K = K (.dat (.bl (decide (.inverse ∈ l)))) := inlst_pd (a := .inverse)
theorem nilst_pd_inverse {l : List Part} {K : Pv → Prop} : WL (oNotIn (.str "inverse") (.lst (l.map pd))) K = K (.dat (.bl (!decide (.inverse ∈ l)))) := nilst_pd (a := .inverse)
theorem intup_pd_inverse {l : List Part} {K : Pv → Prop} : WL (oIn (.str "inverse") (.tup (l.map pd))) K = K (.dat (.bl (decide (.inverse ∈ l)))) := intup_pd (a := .inverse)
theorem nitup_pd_inverse {l : List Part} {K : Pv → Prop} : WL (oNotIn (.str "inverse") (.tup (l.map pd))) K = K (.dat (.bl (!decide (.inverse ∈ l)))) := nitup_pd (a := .inverse)
theorem idx_pd_check {l : List Part} {k : List D → D → Prop} (h : .check ∈ l) : LMK (lmIndex (l.map pd) [.str "check"]) k = k (l.map pd) (.int (l.idxOf .check : Nat)) := pd_dt.idx (a := .check) (by decide) h
theorem eq_pd_check {a : Part} {K : Pv → Prop} : WL (oEq (pd a) (.str "check")) K = K (.dat (.bl (decide (a = .check)))) := eq_pd (b := .check)
theorem ne_pd_check {a : Part} {K : Pv → Prop} : WL (oNe (pd a) (.str "check")) K = K (.dat (.bl (!decide (a = .check)))) := ne_pd (b := .check)
theorem inlst_pd_check {l : List Part} {K : Pv → Prop} : WL (oIn (.str "check") (.lst (l.map pd))) K = K (.dat (.bl (decide (.check ∈ l)))) := inlst_pd (a := .check)
theorem nilst_pd_check {l : List Part} {K : Pv → Prop} : WL (oNotIn (.str "check") (.lst (l.map pd))) K = K (.dat (.bl (!decide (.check ∈ l)))) := nilst_pd (a := .check)
theorem intup_pd_check {l : List Part} {K : Pv → Prop} : WL (oIn (.str "check") (.tup (l.map pd))) K = K (.dat (.bl (decide (.check ∈ l)))) := intup_pd (a := .check)
theorem nitup_pd_check {l : List Part} {K : Pv → Prop} : WL (oNotIn (.str "check") (.tup (l.map pd))) K = K (.dat (.bl (!decide (.check ∈ l)))) := nitup_pd (a := .check)
inductive Place where
  | next | spare | oldest
deriving DecidableEq, Inhabited
noncomputable def Place.s : Place → Str
  | .next => "next"
  | .spare => "spare"
  | .oldest => "oldest"
noncomputable def pld (p : Place) : D := .str p.s
theorem pld_dt : Dt 0 pld := Dt.str (fun a => by cases a <;> decide +kernel) fun a b h => by cases a <;> cases b <;> first | rfl | (exfalso; revert h; decide +kernel)
theorem ty_pld {p : Place} {K : Ty → Prop} : WL (tyD (pld p)) K = K .str := id rfl
theorem eq_pld {a : Place} {b : Place} {K : Pv → Prop} : WL (oEq (pld a) (pld b)) K = K (.dat (.bl (decide (a = b)))) := pld_dt.oEq (by decide)
theorem ne_pld {a : Place} {b : Place} {K : Pv → Prop} : WL (oNe (pld a) (pld b)) K = K (.dat (.bl (!decide (a = b)))) := pld_dt.oNe (by decide)
theorem eql_pld {l : List Place} {r : List Place} {K : Pv → Prop} : WL (oEq (.lst (l.map pld)) (.lst (r.map pld))) K = K (.dat (.bl (decide (l = r)))) := pld_dt.oEqL (by decide)
theorem eqn_pld {l : List Place} {K : Pv → Prop} : WL (oEq (.lst (l.map pld)) (.lst [])) K = K (.dat (.bl (decide (l = [])))) := pld_dt.oEqN (by decide)
theorem nel_pld {l : List Place} {r : List Place} {K : Pv → Prop} : WL (oNe (.lst (l.map pld)) (.lst (r.map pld))) K = K (.dat (.bl (!decide (l = r)))) := pld_dt.oNeL (by decide)
theorem nen_pld {l : List Place} {K : Pv → Prop} : WL (oNe (.lst (l.map pld)) (.lst [])) K = K (.dat (.bl (!decide (l = [])))) := pld_dt.oNeN (by decide)
theorem inlst_pld {a : Place} {l : List Place} {K : Pv → Prop} : WL (oIn (pld a) (.lst (l.map pld))) K = K (.dat (.bl (decide (a ∈ l)))) := pld_dt.oInL (by decide)
theorem nilst_pld {a : Place} {l : List Place} {K : Pv → Prop} : WL (oNotIn (pld a) (.lst (l.map pld))) K = K (.dat (.bl (!decide (a ∈ l)))) := pld_dt.oNotInL (by decide)
theorem intup_pld {a : Place} {l : List Place} {K : Pv → Prop} : WL (oIn (pld a) (.tup (l.map pld))) K = K (.dat (.bl (decide (a ∈ l)))) := pld_dt.oInT (by decide)
theorem nitup_pld {a : Place} {l : List Place} {K : Pv → Prop} : WL (oNotIn (pld a) (.tup (l.map pld))) K = K (.dat (.bl (!decide (a ∈ l)))) := pld_dt.oNotInT (by decide)
theorem idx_pld_next {l : List Place} {k : List D → D → Prop} (h : .next ∈ l) : LMK (lmIndex (l.map pld) [.str "next"]) k = k (l.map pld) (.int (l.idxOf .next : Nat)) := pld_dt.idx (a := .next) (by decide) h
theorem eq_pld_next {a : Place} {K : Pv → Prop} : WL (oEq (pld a) (.str "next")) K = K (.dat (.bl (decide (a = .next)))) := eq_pld (b := .next)
theorem ne_pld_next {a : Place} {K : Pv → Prop} : WL (oNe (pld a) (.str "next")) K = K (.dat (.bl (!decide (a = .next)))) := ne_pld (b := .next)
theorem inlst_pld_next {l : List Place} {K : Pv → Prop} : WL (oIn (.str "next") (.lst (l.map pld))) K = K (.dat (.bl (decide (.next ∈ l)))) := inlst_pld (a := .next)
theorem nilst_pld_next {l : List Place} {K : Pv → Prop} : WL (oNotIn (.str "next") (.lst (l.map pld))) K = K (.dat (.bl (!decide (.next ∈ l)))) := nilst_pld (a := .next)
theorem intup_pld_next {l : List Place} {K : Pv → Prop} : WL (oIn (.str "next") (.tup (l.map pld))) K = K (.dat (.bl (decide (.next ∈ l)))) := intup_pld (a := .next)
theorem nitup_pld_next {l : List Place} {K : Pv → Prop} : WL (oNotIn (.str "next") (.tup (l.map pld))) K = K (.dat (.bl (!decide (.next ∈ l)))) := nitup_pld (a := .next)
theorem idx_pld_spare {l : List Place} {k : List D → D → Prop} (h : .spare ∈ l) : LMK (lmIndex (l.map pld) [.str "spare"]) k = k (l.map pld) (.int (l.idxOf .spare : Nat)) := pld_dt.idx (a := .spare) (by decide) h
theorem eq_pld_spare {a : Place} {K : Pv → Prop} : WL (oEq (pld a) (.str "spare")) K = K (.dat (.bl (decide (a = .spare)))) := eq_pld (b := .spare)
theorem ne_pld_spare {a : Place} {K : Pv → Prop} : WL (oNe (pld a) (.str "spare")) K = K (.dat (.bl (!decide (a = .spare)))) := ne_pld (b := .spare)
theorem inlst_pld_spare {l : List Place} {K : Pv → Prop} : WL (oIn (.str "spare") (.lst (l.map pld))) K = K (.dat (.bl (decide (.spare ∈ l)))) := inlst_pld (a := .spare)
theorem nilst_pld_spare {l : List Place} {K : Pv → Prop} : WL (oNotIn (.str "spare") (.lst (l.map pld))) K = K (.dat (.bl (!decide (.spare ∈ l)))) := nilst_pld (a := .spare)
theorem intup_pld_spare {l : List Place} {K : Pv → Prop} : WL (oIn (.str "spare") (.tup (l.map pld))) K = K (.dat (.bl (decide (.spare ∈ l)))) := intup_pld (a := .spare)
theorem nitup_pld_spare {l : List Place} {K : Pv → Prop} : WL (oNotIn (.str "spare") (.tup (l.map pld))) K = K (.dat (.bl (!decide (.spare ∈ l)))) := nitup_pld (a := .spare)
theorem idx_pld_oldest {l : List Place} {k : List D → D → Prop} (h : .oldest ∈ l) : LMK (lmIndex (l.map pld) [.str "oldest"]) k = k (l.map pld) (.int (l.idxOf .oldest : Nat)) := pld_dt.idx (a := .oldest) (by decide) h
theorem eq_pld_oldest {a : Place} {K : Pv → Prop} : WL (oEq (pld a) (.str "oldest")) K = K (.dat (.bl (decide (a = .oldest)))) := eq_pld (b := .oldest)
theorem ne_pld_oldest {a : Place} {K : Pv → Prop} : WL (oNe (pld a) (.str "oldest")) K = K (.dat (.bl (!decide (a = .oldest)))) := ne_pld (b := .oldest)
theorem inlst_pld_oldest {l : List Place} {K : Pv → Prop} : WL (oIn (.str "oldest") (.lst (l.map pld))) K = K (.dat (.bl (decide (.oldest ∈ l)))) := inlst_pld (a := .oldest)
theorem nilst_pld_oldest {l : List Place} {K : Pv → Prop} : WL (oNotIn (.str "oldest") (.lst (l.map pld))) K = K (.dat (.bl (!decide (.oldest ∈ l)))) := nilst_pld (a := .oldest)
theorem intup_pld_oldest {l : List Place} {K : Pv → Prop} : WL (oIn (.str "oldest") (.tup (l.map pld))) K = K (.dat (.bl (decide (.oldest ∈ l)))) := intup_pld (a := .oldest)
theorem nitup_pld_oldest {l : List Place} {K : Pv → Prop} : WL (oNotIn (.str "oldest") (.tup (l.map pld))) K = K (.dat (.bl (!decide (.oldest ∈ l)))) := nitup_pld (a := .oldest)
inductive RK where
  | step | only | first | window
deriving DecidableEq, Inhabited
noncomputable def RK.s : RK → Str
  | .step => "step"
  | .only => "only"
  | .first => "first"
  | .window => "window"
noncomputable def rkd (p : RK) : D := .str p.s
theorem rkd_dt : Dt 0 rkd := Dt.str (fun a => by cases a <;> decide +kernel) fun a b h => by cases a <;> cases b <;> first | rfl | (exfalso; revert h; decide +kernel)
theorem ty_rkd {p : RK} {K : Ty → Prop} : WL (tyD (rkd p)) K = K .str := id rfl
theorem eq_rkd {a : RK} {b : RK} {K : Pv → Prop} : WL (oEq (rkd a) (rkd b)) K = K (.dat (.bl (decide (a = b)))) := rkd_dt.oEq (by decide)
theorem ne_rkd {a : RK} {b : RK} {K : Pv → Prop} : WL (oNe (rkd a) (rkd b)) K = K (.dat (.bl (!decide (a = b)))) := rkd_dt.oNe (by decide)
theorem eql_rkd {l : List RK} {r : List RK} {K : Pv → Prop} : WL (oEq (.lst (l.map rkd)) (.lst (r.map rkd))) K = K (.dat (.bl (decide (l = r)))) := rkd_dt.oEqL (by decide)
theorem eqn_rkd {l : List RK} {K : Pv → Prop} : WL (oEq (.lst (l.map rkd)) (.lst [])) K = K (.dat (.bl (decide (l = [])))) := rkd_dt.oEqN (by decide)
theorem nel_rkd {l : List RK} {r : List RK} {K : Pv → Prop} : WL (oNe (.lst (l.map rkd)) (.lst (r.map rkd))) K = K (.dat (.bl (!decide (l = r)))) := rkd_dt.oNeL (by decide)
theorem nen_rkd {l : List RK} {K : Pv → Prop} : WL (oNe (.lst (l.map rkd)) (.lst [])) K = K (.dat (.bl (!decide (l = [])))) := rkd_dt.oNeN (by decide)
theorem inlst_rkd {a : RK} {l : List RK} {K : Pv → Prop} : WL (oIn (rkd a) (.lst (l.map rkd))) K = K (.dat (.bl (decide (a ∈ l)))) := rkd_dt.oInL (by decide)
theorem nilst_rkd {a : RK} {l : List RK} {K : Pv → Prop} : WL (oNotIn (rkd a) (.lst (l.map rkd))) K = K (.dat (.bl (!decide (a ∈ l)))) := rkd_dt.oNotInL (by decide)
theorem intup_rkd {a : RK} {l : List RK} {K : Pv → Prop} : WL (oIn (rkd a) (.tup (l.map rkd))) K = K (.dat (.bl (decide (a ∈ l)))) := rkd_dt.oInT (by decide)
theorem nitup_rkd {a : RK} {l : List RK} {K : Pv → Prop} : WL (oNotIn (rkd a) (.tup (l.map rkd))) K = K (.dat (.bl (!decide (a ∈ l)))) := rkd_dt.oNotInT (by decide)
theorem idx_rkd_step {l : List RK} {k : List D → D → Prop} (h : .step ∈ l) : LMK (lmIndex (l.map rkd) [.str "step"]) k = k (l.map rkd) (.int (l.idxOf .step : Nat)) := rkd_dt.idx (a := .step) (by decide) h
theorem eq_rkd_step {a : RK} {K : Pv → Prop} : WL (oEq (rkd a) (.str "step")) K = K (.dat (.bl (decide (a = .step)))) := eq_rkd (b := .step)
theorem ne_rkd_step {a : RK} {K : Pv → Prop} : WL (oNe (rkd a) (.str "step")) K = K (.dat (.bl (!decide (a = .step)))) := ne_rkd (b := .step)
theorem inlst_rkd_step {l : List RK} {K : Pv → Prop} : WL (oIn (.str "step") (.lst (l.map rkd))) K = K (.dat (.bl (decide (.step ∈ l)))) := inlst_rkd (a := .step)
theorem nilst_rkd_step {l : List RK} {K : Pv → Prop} : WL (oNotIn (.str "step") (.lst (l.map rkd))) K = K (.dat (.bl (!decide (.step ∈ l)))) := nilst_rkd (a := .step)
theorem intup_rkd_step {l : List RK} {K : Pv → Prop} : WL (oIn (.str "step") (.tup (l.map rkd))) K = K (.dat (.bl (decide (.step ∈ l)))) := intup_rkd (a := .step)
theorem nitup_rkd_step {l : List RK} {K : Pv → Prop} : WL (oNotIn (.str "step") (.tup (l.map rkd))) K = K (.dat (.bl (!decide (.step ∈ l)))) := nitup_rkd (a := .step)
theorem idx_rkd_only {l : List RK} {k : List D → D → Prop} (h : .only ∈ l) : LMK (lmIndex (l.map rkd) [.str "only"]) k = k (l.map rkd) (.int (l.idxOf .only : Nat)) := rkd_dt.idx (a := .only) (by decide) h
theorem eq_rkd_only {a : RK} {K : Pv → Prop} : WL (oEq (rkd a) (.str "only")) K = K (.dat (.bl (decide (a = .only)))) := eq_rkd (b := .only)
theorem ne_rkd_only {a : RK} {K : Pv → Prop} : WL (oNe (rkd a) (.str "only")) K = K (.dat (.bl (!decide (a = .only)))) := ne_rkd (b := .only)
theorem inlst_rkd_only {l : List RK} {K : Pv → Prop} : WL (oIn (.str "only") (.lst (l.map rkd))) K = K (.dat (.bl (decide (.only ∈ l)))) := inlst_rkd (a := .only)
theorem nilst_rkd_only {l : List RK} {K : Pv → Prop} : WL (oNotIn (.str "only") (.lst (l.map rkd))) K = K (.dat (.bl (!decide (.only ∈ l)))) := nilst_rkd (a := .only)
theorem intup_rkd_only {l : List RK} {K : Pv → Prop} : WL (oIn (.str "only") (.tup (l.map rkd))) K = K (.dat (.bl (decide (.only ∈ l)))) := intup_rkd (a := .only)
theorem nitup_rkd_only {l : List RK} {K : Pv → Prop} : WL (oNotIn (.str "only") (.tup (l.map rkd))) K = K (.dat (.bl (!decide (.only ∈ l)))) := nitup_rkd (a := .only)
theorem idx_rkd_first {l : List RK} {k : List D → D → Prop} (h : .first ∈ l) : LMK (lmIndex (l.map rkd) [.str "first"]) k = k (l.map rkd) (.int (l.idxOf .first : Nat)) := rkd_dt.idx (a := .first) (by decide) h
theorem eq_rkd_first {a : RK} {K : Pv → Prop} : WL (oEq (rkd a) (.str "first")) K = K (.dat (.bl (decide (a = .first)))) := eq_rkd (b := .first)
theorem ne_rkd_first {a : RK} {K : Pv → Prop} : WL (oNe (rkd a) (.str "first")) K = K (.dat (.bl (!decide (a = .first)))) := ne_rkd (b := .first)
theorem inlst_rkd_first {l : List RK} {K : Pv → Prop} : WL (oIn (.str "first") (.lst (l.map rkd))) K = K (.dat (.bl (decide (.first ∈ l)))) := inlst_rkd (a := .first)
theorem nilst_rkd_first {l : List RK} {K : Pv → Prop} : WL (oNotIn (.str "first") (.lst (l.map rkd))) K = K (.dat (.bl (!decide (.first ∈ l)))) := nilst_rkd (a := .first)
theorem intup_rkd_first {l : List RK} {K : Pv → Prop} : WL (oIn (.str "first") (.tup (l.map rkd))) K = K (.dat (.bl (decide (.first ∈ l)))) := intup_rkd (a := .first)
theorem nitup_rkd_first {l : List RK} {K : Pv → Prop} : WL (oNotIn (.str "first") (.tup (l.map rkd))) K = K (.dat (.bl (!decide (.first ∈ l)))) := nitup_rkd (a := .first)
theorem idx_rkd_window {l : List RK} {k : List D → D → Prop} (h : .window ∈ l) : LMK (lmIndex (l.map rkd) [.str "window"]) k = k (l.map rkd) (.int (l.idxOf .window : Nat)) := rkd_dt.idx (a := .window) (by decide) h
theorem eq_rkd_window {a : RK} {K : Pv → Prop} : WL (oEq (rkd a) (.str "window")) K = K (.dat (.bl (decide (a = .window)))) := eq_rkd (b := .window)
theorem ne_rkd_window {a : RK} {K : Pv → Prop} : WL (oNe (rkd a) (.str "window")) K = K (.dat (.bl (!decide (a = .window)))) := ne_rkd (b := .window)
theorem inlst_rkd_window {l : List RK} {K : Pv → Prop} : WL (oIn (.str "window") (.lst (l.map rkd))) K = K (.dat (.bl (decide (.window ∈ l)))) := inlst_rkd (a := .window)
theorem nilst_rkd_window {l : List RK} {K : Pv → Prop} : WL (oNotIn (.str "window") (.lst (l.map rkd))) K = K (.dat (.bl (!decide (.window ∈ l)))) := nilst_rkd (a := .window)
theorem intup_rkd_window {l : List RK} {K : Pv → Prop} : WL (oIn (.str "window") (.tup (l.map rkd))) K = K (.dat (.bl (decide (.window ∈ l)))) := intup_rkd (a := .window)
theorem nitup_rkd_window {l : List RK} {K : Pv → Prop} : WL (oNotIn (.str "window") (.tup (l.map rkd))) K = K (.dat (.bl (!decide (.window ∈ l)))) := nitup_rkd (a := .window)
inductive Rule where
  | step | only | first | window (r : Nat)
deriving DecidableEq, Inhabited
noncomputable def rd : Rule → D
  | .step => .tup [.str "step"]
  | .only => .tup [.str "only"]
  | .first => .tup [.str "first"]
  | .window r => .tup [.str "window", .int r]
theorem rd_dt : Dt 1 rd := ⟨fun a => by cases a <;> exact ⟨_, rfl, by (simp only [PyData.canLay0, PyData.canLayAll0, Bool.and_true]; decide +kernel), by simp [PyData.depth, PyData.depthAll]⟩, fun a b p q e1 e2 => by
  cases a <;> cases b <;> (cases e1; cases e2; simp [PyData.eqv, PyData.eqvAll]) <;> first | decide +kernel | omega⟩
theorem ty_rd {r : Rule} {K : Ty → Prop} : WL (tyD (rd r)) K = K .tup := by cases r <;> rfl
theorem in_rd {a : Rule} {l : List Rule} {K : Pv → Prop} : WL (oIn (rd a) (.tup (l.map rd))) K = K (.dat (.bl (decide (a ∈ l)))) := rd_dt.oInT (by decide)
noncomputable def Rule.kind : Rule → RK
  | .step => .step
  | .only => .only
  | .first => .first
  | .window _ => .window
theorem ix0_rd {r : Rule} {K : Pv → Prop} : WL (oIx (rd r) (.int 0)) K = K (.dat (rkd r.kind)) := by cases r <;> exact ixt_0
theorem len_rd {r : Rule} {K : Pv → Prop} : WL (oLen [rd r]) K = K (.dat (.int (if r.kind = .window then 2 else 1))) := by cases r <;> rfl
theorem nil_rd {r : Rule} {K : Pv → Prop} : WL (oEq (rd r) (.tup [])) K = K (.dat (.bl false)) := by
  refine WL_of ?_
  have h : eqB (rd r) (.tup []) = some false := by
    obtain ⟨p, h1, h2, h3⟩ := rd_dt.py r
    unfold eqB
    rw [h1]
    show (if (SeqAt.shaped p && SeqAt.shaped (.tuple [])) = true then _ else _) = _
    rw [shaped_of h2 (by omega), show SeqAt.shaped (.tuple []) = true from rfl, Bool.and_self, if_pos rfl]
    cases r <;> (cases h1; rfl)
  show (eqB _ _).map _ = _
  rw [h]; rfl
theorem in_plain {a : RK} {K : Pv → Prop} : WL (oIn (rkd a) (.tup [.str "step", .str "only", .str "first"])) K = K (.dat (.bl (decide (a ∈ [RK.step, .only, .first])))) := intup_rkd (l := [RK.step, .only, .first])
noncomputable def Rule.ok (m : Nat) : Rule → Prop
  | .window r => 1 ≤ r ∧ r + 1 ≤ m
  | _ => True
structure Sch where
  cells : Nat
  marks : Nat
  lay : List Part
  rules : List Rule
  covers : List Part
  place : Place
  noisy : Bool
noncomputable def Part.marked : Part → Bool
  | .mark => true
  | .inverse => true
  | _ => false
theorem in_marked {a : Part} {K : Pv → Prop} : WL (oIn (pd a) (.tup [.str "mark", .str "inverse"])) K = K (.dat (.bl a.marked)) := by
  rw [show WL (oIn (pd a) (.tup [.str "mark", .str "inverse"])) K = K (.dat (.bl (decide (a ∈ [Part.mark, .inverse])))) from intup_pd (l := [.mark, .inverse])]
  cases a <;> rfl
theorem ni_places {a : Place} {K : Pv → Prop} : WL (oNotIn (pld a) (.tup [.str "next", .str "spare", .str "oldest"])) K = K (.dat (.bl false)) := by
  rw [show WL (oNotIn (pld a) (.tup [.str "next", .str "spare", .str "oldest"])) K = K (.dat (.bl (!decide (a ∈ [Place.next, .spare, .oldest])))) from nitup_pld (l := [.next, .spare, .oldest])]
  cases a <;> rfl
/-- the scheme of the package -/
noncomputable def schF : List Str := ["own_size", "own_ring", "own_layout", "own_rules", "own_covers", "own_place", "own_noisy"]
noncomputable def Sch.flds (s : Sch) : List D := [.tup [.int s.cells, .int s.marks], .tup ((List.range s.cells).map fun i : Nat => .int i), .tup (s.lay.map pd), .tup (s.rules.map rd), .tup (s.covers.map pd), pld s.place, .bl s.noisy]
noncomputable def Sch.d (s : Sch) : D := .ins 0 schF s.flds
theorem insK_sd {s : Sch} {A : Prop} : insK 0 A s.d = A := insK_i
theorem isInsK_sd {s : Sch} {f : Str} {A : Prop} (h : schF.contains f = false) : isInsK 0 f A s.d = A := isInsK_i h
theorem fld_sd_own_size {s : Sch} {k : D → Prop} : fldK 0 "own_size" k s.d = k (.tup [.int s.cells, .int s.marks]) := by
  rw [show fldK 0 "own_size" k s.d = WL (fldD "own_size" schF s.flds) k from fldK_i]
  exact WL_of (by unfold schF Sch.flds; repeat (first | rfl | (rw [show fldD _ (_ :: _) (_ :: _) = fldD _ _ _ from if_neg (by decide +kernel)])))
theorem fld_sd_own_ring {s : Sch} {k : D → Prop} : fldK 0 "own_ring" k s.d = k (.tup ((List.range s.cells).map fun i : Nat => .int i)) := by
  rw [show fldK 0 "own_ring" k s.d = WL (fldD "own_ring" schF s.flds) k from fldK_i]
  exact WL_of (by unfold schF Sch.flds; repeat (first | rfl | (rw [show fldD _ (_ :: _) (_ :: _) = fldD _ _ _ from if_neg (by decide +kernel)])))
theorem fld_sd_own_layout {s : Sch} {k : D → Prop} : fldK 0 "own_layout" k s.d = k (.tup (s.lay.map pd)) := by
  rw [show fldK 0 "own_layout" k s.d = WL (fldD "own_layout" schF s.flds) k from fldK_i]
  exact WL_of (by unfold schF Sch.flds; repeat (first | rfl | (rw [show fldD _ (_ :: _) (_ :: _) = fldD _ _ _ from if_neg (by decide +kernel)])))
theorem fld_sd_own_rules {s : Sch} {k : D → Prop} : fldK 0 "own_rules" k s.d = k (.tup (s.rules.map rd)) := by
  rw [show fldK 0 "own_rules" k s.d = WL (fldD "own_rules" schF s.flds) k from fldK_i]
  exact WL_of (by unfold schF Sch.flds; repeat (first | rfl | (rw [show fldD _ (_ :: _) (_ :: _) = fldD _ _ _ from if_neg (by decide +kernel)])))
theorem fld_sd_own_covers {s : Sch} {k : D → Prop} : fldK 0 "own_covers" k s.d = k (.tup (s.covers.map pd)) := by
  rw [show fldK 0 "own_covers" k s.d = WL (fldD "own_covers" schF s.flds) k from fldK_i]
  exact WL_of (by unfold schF Sch.flds; repeat (first | rfl | (rw [show fldD _ (_ :: _) (_ :: _) = fldD _ _ _ from if_neg (by decide +kernel)])))
theorem fld_sd_own_place {s : Sch} {k : D → Prop} : fldK 0 "own_place" k s.d = k (pld s.place) := by
  rw [show fldK 0 "own_place" k s.d = WL (fldD "own_place" schF s.flds) k from fldK_i]
  exact WL_of (by unfold schF Sch.flds; repeat (first | rfl | (rw [show fldD _ (_ :: _) (_ :: _) = fldD _ _ _ from if_neg (by decide +kernel)])))
theorem fld_sd_own_noisy {s : Sch} {k : D → Prop} : fldK 0 "own_noisy" k s.d = k (.bl s.noisy) := by
  rw [show fldK 0 "own_noisy" k s.d = WL (fldD "own_noisy" schF s.flds) k from fldK_i]
  exact WL_of (by unfold schF Sch.flds; repeat (first | rfl | (rw [show fldD _ (_ :: _) (_ :: _) = fldD _ _ _ from if_neg (by decide +kernel)])))
theorem isN_on {o : Option Nat} {K : Pv → Prop} : WL (oIsN (onD o) .non) K = K (.dat (.bl o.isNone)) := by cases o <;> rfl
theorem notN_on {o : Option Nat} {K : Pv → Prop} : WL (oNotN (onD o) .non) K = K (.dat (.bl o.isSome)) := by cases o <;> rfl
theorem eqn_nat {l : List Nat} {K : Pv → Prop} : WL (oEq (.lst (l.map fun k : Nat => D.int (k : Int))) (.lst [])) K = K (.dat (.bl (decide (l = [])))) := Dt.nat.oEqN (by decide)
theorem nen_nat {l : List Nat} {K : Pv → Prop} : WL (oNe (.lst (l.map fun k : Nat => D.int (k : Int))) (.lst [])) K = K (.dat (.bl (!decide (l = [])))) := Dt.nat.oNeN (by decide)
theorem inl_nat {a : Nat} {l : List Nat} {K : Pv → Prop} : WL (oIn (.int (a : Int)) (.lst (l.map fun k : Nat => D.int (k : Int)))) K = K (.dat (.bl (decide (a ∈ l)))) := Dt.nat.oInL (by decide)
theorem int_nat {a : Nat} {l : List Nat} {K : Pv → Prop} : WL (oIn (.int (a : Int)) (.tup (l.map fun k : Nat => D.int (k : Int)))) K = K (.dat (.bl (decide (a ∈ l)))) := Dt.nat.oInT (by decide)
theorem nil_nat {a : Nat} {l : List Nat} {K : Pv → Prop} : WL (oNotIn (.int (a : Int)) (.lst (l.map fun k : Nat => D.int (k : Int)))) K = K (.dat (.bl (!decide (a ∈ l)))) := Dt.nat.oNotInL (by decide)
theorem eql_on {l2 : List (Option Nat)} {r2 : List (Option Nat)} {K : Pv → Prop} : WL (oEq (.lst (l2.map onD)) (.lst (r2.map onD))) K = K (.dat (.bl (decide (l2 = r2)))) := Dt.opt.oEqL (by decide)
theorem nel_on {l2 : List (Option Nat)} {r2 : List (Option Nat)} {K : Pv → Prop} : WL (oNe (.lst (l2.map onD)) (.lst (r2.map onD))) K = K (.dat (.bl (!decide (l2 = r2)))) := Dt.opt.oNeL (by decide)
end Lw
namespace Lw
open PySem G
noncomputable def m_law_bag_L1 : M Fl := (gSet 1 (gOp oMod (pD (toV (gBi oInt (qCons (pD (toV (gOp oAdd (pD (toV (gOp oAdd (pD (toV (gOp oMul (pS 1) (pD (gD (.int 39119)))))) (pD (toV (gOp oMod (pD (toV (gBi oInt (qCons (pS 2) qNil)))) (pD (gD (.int 2147483563))))))))) (pD (gD (.int 13)))))) qNil)))) (pD (gD (.int 2147483579)))))
noncomputable def m_law_bag : M Fl := (gSeq (gSet 1 (M.bind (gD (.int 10007)) fun d => M.pure (.dat d)))
    (gSeq (gFor (gSeqI (toV (gSlice (pS 0) (gPart none) (gPart (some (pD (gD (.int 63)))))))) (bName 2) (m_law_bag_L1))
    (gRet (gLst (gCons (toV (gBi oList (qCons (pD (toV (gSlice (pS 0) (gPart none) (gPart (some (pD (gD (.int 63)))))))) qNil))) (gCons (gD (.int 0)) (gCons (gD (.int 0)) (gCons (toV (gVar 1)) (gCons (gD (.int 0)) gNil)))))))))
@[irreducible] noncomputable def fn_law_bag_0 : Fn := defFn 3 m_law_bag
theorem fe_law_bag : fn_law_bag_0 = defFn 3 m_law_bag := by rw [fn_law_bag_0]
noncomputable abbrev fn_law_bag : Fn := fn_law_bag_0
noncomputable def m_law_take : M Fl := (gSeq (gIfS (gAnd (gB (toV (gOp oEq (pD (toV (gOp oIx (pS 0) (pD (gD (.int 2)))))) (pD (gD (.int 0)))))) (gB (toV (gOp oLt (pD (toV (gOp oIx (pS 0) (pD (gD (.int 1)))))) (pD (toV (gBi oLen (qCons (pD (toV (gOp oIx (pS 0) (pD (gD (.int 0)))))) qNil)))))))) (gSeq (gSet 2 (gOp oIx (pD (toV (gOp oIx (pS 0) (pD (gD (.int 0)))))) (pD (toV (gOp oIx (pS 0) (pD (gD (.int 1))))))))
    (gSeq (gAsg (toV (gOp oAdd (pD (toV (gOp oIx (pS 0) (pD (gD (.int 1)))))) (pD (gD (.int 1))))) (bItem 0 (pD (gD (.int 1)))))
    (gIfS (gB (toV (gOp oGe (pS 2) (pD (toV (gOp oPow (pD (gD (.int 10))) (pD (gD (.int 18))))))))) (gAsg (toV (gVar 2)) (bItem 0 (pD (gD (.int 2))))) (gAsg (toV (gOp oMod (pD (toV (gBi oInt (qCons (pD (toV (gOp oAdd (pD (toV (gOp oAdd (pD (toV (gOp oMul (pD (toV (gOp oIx (pS 0) (pD (gD (.int 3)))))) (pD (gD (.int 28657)))))) (pD (toV (gOp oMod (pD (toV (gBi oInt (qCons (pS 2) qNil)))) (pD (gD (.int 2147483543))))))))) (pD (gD (.int 23)))))) qNil)))) (pD (gD (.int 2147483629))))) (bItem 0 (pD (gD (.int 3)))))))) (M.pure .nx))
    (gSeq (gIfS (gB (toV (gOp oGt (pD (toV (gOp oIx (pS 0) (pD (gD (.int 2)))))) (pD (gD (.int 0)))))) (gSeq (gSet 3 (gOp oMod (pD (toV (gBi oInt (qCons (pD (toV (gOp oIx (pS 0) (pD (gD (.int 2)))))) qNil)))) (pS 1)))
    (gSeq (gAsg (toV (gOp oFdiv (pD (toV (gBi oInt (qCons (pD (toV (gOp oIx (pS 0) (pD (gD (.int 2)))))) qNil)))) (pS 1))) (bItem 0 (pD (gD (.int 2)))))
    (gRet (gVar 3)))) (M.pure .nx))
    (gSeq (gAsg (toV (gOp oAdd (pD (toV (gOp oIx (pS 0) (pD (gD (.int 4)))))) (pD (gD (.int 1))))) (bItem 0 (pD (gD (.int 4)))))
    (gSeq (gSet 4 (gOp oMod (pD (toV (gBi oInt (qCons (pD (toV (gOp oAdd (pD (toV (gOp oIx (pS 0) (pD (gD (.int 3)))))) (pD (toV (gOp oMul (pD (toV (gOp oIx (pS 0) (pD (gD (.int 4)))))) (pD (gD (.int 6997))))))))) qNil)))) (pD (gD (.int 2147483629)))))
    (gSeq (gAsg (toV (gOp oMod (pD (toV (gBi oInt (qCons (pD (toV (gOp oAdd (pD (toV (gOp oAdd (pD (toV (gOp oPow (pS 4) (pD (gD (.int 3)))))) (pD (toV (gOp oMul (pD (gD (.int 41011))) (pS 4))))))) (pD (gD (.int 1013)))))) qNil)))) (pD (gD (.int 2147483629))))) (bItem 0 (pD (gD (.int 3)))))
    (gRet (gOp oMod (pD (toV (gBi oInt (qCons (pD (toV (gOp oAdd (pD (toV (gOp oFdiv (pD (toV (gOp oIx (pS 0) (pD (gD (.int 3)))))) (pD (gD (.int 59)))))) (pD (toV (gOp oMul (pD (toV (gOp oMod (pD (toV (gBi oInt (qCons (pD (toV (gOp oIx (pS 0) (pD (gD (.int 3)))))) qNil)))) (pD (gD (.int 8017)))))) (pD (gD (.int 43))))))))) qNil)))) (pS 1))))))))
@[irreducible] noncomputable def fn_law_take_0 : Fn := defFn 5 m_law_take
theorem fe_law_take : fn_law_take_0 = defFn 5 m_law_take := by rw [fn_law_take_0]
noncomputable abbrev fn_law_take : Fn := fn_law_take_0
noncomputable def m_is_listed : M Fl := (gRet (M.bind (gIsi [.lst, .tup] (pS 0)) fun d => M.pure (.dat d)))
@[irreducible] noncomputable def fn_is_listed_0 : Fn := defFn 1 m_is_listed
theorem fe_is_listed : fn_is_listed_0 = defFn 1 m_is_listed := by rw [fn_is_listed_0]
noncomputable abbrev fn_is_listed : Fn := fn_is_listed_0
noncomputable def m_copy_of (rec : Fn) : M Fl := (gSeq (gIfS (gB (gIsi [.lst] (pS 0))) (gRet (gLc [1] (gSeqI (toV (gVar 0))) (bName 1) (M.pure true) (toV (gCallA rec 1 0 (kV (toV (gVar 1)) kNil) kNil)))) (M.pure .nx))
    (gRet (gIf (gB (gIsi [.tup] (pS 0))) (gBi oTuple (qCons (pD (toV (gLc [1] (gSeqI (toV (gVar 0))) (bName 1) (M.pure true) (toV (gCallA rec 1 0 (kV (toV (gVar 1)) kNil) kNil))))) qNil)) (gVar 0))))
noncomputable def fnr_copy_of : Nat → Fn
  | 0 => fun _ => .bad
  | j + 1 => defFn 2 (m_copy_of (fnr_copy_of j))
@[irreducible] noncomputable def fn_copy_of (j : Nat) : Fn := fnr_copy_of j
theorem fe_copy_of {j : Nat} : fn_copy_of j = fnr_copy_of j := by rw [fn_copy_of]
noncomputable def m_row_copy : M Fl := (gRet (gIf (gB (toV (gCallA fn_is_listed 1 0 (kV (toV (gVar 0)) kNil) kNil))) (gLc [1] (gSeqI (toV (gVar 0))) (bName 1) (M.pure true) (toV (gCallA (fn_copy_of 8) 1 0 (kV (toV (gVar 1)) kNil) kNil))) (gLst gNil)))
@[irreducible] noncomputable def fn_row_copy_0 : Fn := defFn 2 m_row_copy
theorem fe_row_copy : fn_row_copy_0 = defFn 2 m_row_copy := by rw [fn_row_copy_0]
noncomputable abbrev fn_row_copy : Fn := fn_row_copy_0
noncomputable def m_Least_init : M Fl := (gSeq (gSetF 0 49 "own_size" (toV (gVar 1)))
    (gSetF 0 49 "own_foes" (toV (gCallA fn_row_copy 1 0 (kV (toV (gVar 2)) kNil) kNil))))
@[irreducible] noncomputable def fn_Least_init_0 : Fn := defFn 3 m_Least_init
theorem fe_Least_init : fn_Least_init_0 = defFn 3 m_Least_init := by rw [fn_Least_init_0]
noncomputable abbrev fn_Least_init : Fn := fn_Least_init_0
noncomputable def m_Unlike_init : M Fl := (gSetF 0 48 "own_heard" (toV (gCallA fn_row_copy 1 0 (kV (toV (gVar 1)) kNil) kNil)))
@[irreducible] noncomputable def fn_Unlike_init_0 : Fn := defFn 2 m_Unlike_init
theorem fe_Unlike_init : fn_Unlike_init_0 = defFn 2 m_Unlike_init := by rw [fn_Unlike_init_0]
noncomputable abbrev fn_Unlike_init : Fn := fn_Unlike_init_0
noncomputable def m_Alike_init : M Fl := (gSetF 0 47 "own_pairs" (toV (gCallA fn_row_copy 1 0 (kV (toV (gVar 1)) kNil) kNil)))
@[irreducible] noncomputable def fn_Alike_init_0 : Fn := defFn 2 m_Alike_init
theorem fe_Alike_init : fn_Alike_init_0 = defFn 2 m_Alike_init := by rw [fn_Alike_init_0]
noncomputable abbrev fn_Alike_init : Fn := fn_Alike_init_0
noncomputable def m_Uneven_init : M Fl := (gSetF 0 46 "own_parts" (gTup (gCons (toV (gCallA fn_row_copy 1 0 (kV (toV (gVar 1)) kNil) kNil)) (gCons (toV (gCallA fn_row_copy 1 0 (kV (toV (gVar 2)) kNil) kNil)) gNil))))
@[irreducible] noncomputable def fn_Uneven_init_0 : Fn := defFn 3 m_Uneven_init
theorem fe_Uneven_init : fn_Uneven_init_0 = defFn 3 m_Uneven_init := by rw [fn_Uneven_init_0]
noncomputable abbrev fn_Uneven_init : Fn := fn_Uneven_init_0
noncomputable def m_Even_init : M Fl := (gSeq (gSetF 0 45 "own_most" (toV (gVar 1)))
    (gSetF 0 45 "own_events" (toV (gCallA fn_row_copy 1 0 (kV (toV (gVar 2)) kNil) kNil))))
@[irreducible] noncomputable def fn_Even_init_0 : Fn := defFn 3 m_Even_init
theorem fe_Even_init : fn_Even_init_0 = defFn 3 m_Even_init := by rw [fn_Even_init_0]
noncomputable abbrev fn_Even_init : Fn := fn_Even_init_0
noncomputable def m_Endless_init : M Fl := (gSetF 0 44 "own_parts" (gTup (gCons (toV (gCallA fn_row_copy 1 0 (kV (toV (gVar 1)) kNil) kNil)) (gCons (toV (gCallA fn_row_copy 1 0 (kV (toV (gVar 2)) kNil) kNil)) (gCons (toV (gCallA fn_row_copy 1 0 (kV (toV (gVar 3)) kNil) kNil)) gNil)))))
@[irreducible] noncomputable def fn_Endless_init_0 : Fn := defFn 4 m_Endless_init
theorem fe_Endless_init : fn_Endless_init_0 = defFn 4 m_Endless_init := by rw [fn_Endless_init_0]
noncomputable abbrev fn_Endless_init : Fn := fn_Endless_init_0
noncomputable def m_Bounded_init : M Fl := (gSeq (gSetF 0 43 "own_most" (toV (gVar 1)))
    (gSeq (gSetF 0 43 "own_events" (toV (gCallA fn_row_copy 1 0 (kV (toV (gVar 2)) kNil) kNil)))
    (gSeq (gSetF 0 43 "own_standings" (toV (gCallA fn_row_copy 1 0 (kV (toV (gVar 3)) kNil) kNil)))
    (gSetF 0 43 "own_heights" (toV (gCallA fn_row_copy 1 0 (kV (toV (gVar 4)) kNil) kNil))))))
@[irreducible] noncomputable def fn_Bounded_init_0 : Fn := defFn 5 m_Bounded_init
theorem fe_Bounded_init : fn_Bounded_init_0 = defFn 5 m_Bounded_init := by rw [fn_Bounded_init_0]
noncomputable abbrev fn_Bounded_init : Fn := fn_Bounded_init_0
noncomputable def m_Harmed_init : M Fl := (gSetF 0 42 "own_events" (toV (gCallA fn_row_copy 1 0 (kV (toV (gVar 1)) kNil) kNil)))
@[irreducible] noncomputable def fn_Harmed_init_0 : Fn := defFn 2 m_Harmed_init
theorem fe_Harmed_init : fn_Harmed_init_0 = defFn 2 m_Harmed_init := by rw [fn_Harmed_init_0]
noncomputable abbrev fn_Harmed_init : Fn := fn_Harmed_init_0
noncomputable def m_Safe_init : M Fl := (gSetF 0 41 "own_table" (toV (gCallA fn_row_copy 1 0 (kV (toV (gVar 1)) kNil) kNil)))
@[irreducible] noncomputable def fn_Safe_init_0 : Fn := defFn 2 m_Safe_init
theorem fe_Safe_init : fn_Safe_init_0 = defFn 2 m_Safe_init := by rw [fn_Safe_init_0]
noncomputable abbrev fn_Safe_init : Fn := fn_Safe_init_0
noncomputable def m_Least_foes : M Fl := (gRet (gCallA fn_row_copy 1 0 (kV (gFld 49 "own_foes" (pS 0)) kNil) kNil))
@[irreducible] noncomputable def fn_Least_foes_0 : Fn := defFn 1 m_Least_foes
theorem fe_Least_foes : fn_Least_foes_0 = defFn 1 m_Least_foes := by rw [fn_Least_foes_0]
noncomputable abbrev fn_Least_foes : Fn := fn_Least_foes_0
noncomputable def m_Unlike_heard : M Fl := (gRet (gCallA fn_row_copy 1 0 (kV (gFld 48 "own_heard" (pS 0)) kNil) kNil))
@[irreducible] noncomputable def fn_Unlike_heard_0 : Fn := defFn 1 m_Unlike_heard
theorem fe_Unlike_heard : fn_Unlike_heard_0 = defFn 1 m_Unlike_heard := by rw [fn_Unlike_heard_0]
noncomputable abbrev fn_Unlike_heard : Fn := fn_Unlike_heard_0
noncomputable def m_Alike_pairs : M Fl := (gRet (gCallA fn_row_copy 1 0 (kV (gFld 47 "own_pairs" (pS 0)) kNil) kNil))
@[irreducible] noncomputable def fn_Alike_pairs_0 : Fn := defFn 1 m_Alike_pairs
theorem fe_Alike_pairs : fn_Alike_pairs_0 = defFn 1 m_Alike_pairs := by rw [fn_Alike_pairs_0]
noncomputable abbrev fn_Alike_pairs : Fn := fn_Alike_pairs_0
noncomputable def m_Uneven_ring : M Fl := (gRet (gCallA fn_row_copy 1 0 (kV (toV (gOp oIx (pD (gFld 46 "own_parts" (pS 0))) (pD (gD (.int 1))))) kNil) kNil))
@[irreducible] noncomputable def fn_Uneven_ring_0 : Fn := defFn 1 m_Uneven_ring
theorem fe_Uneven_ring : fn_Uneven_ring_0 = defFn 1 m_Uneven_ring := by rw [fn_Uneven_ring_0]
noncomputable abbrev fn_Uneven_ring : Fn := fn_Uneven_ring_0
noncomputable def m_Uneven_lead : M Fl := (gRet (gCallA fn_row_copy 1 0 (kV (toV (gOp oIx (pD (gFld 46 "own_parts" (pS 0))) (pD (gD (.int 0))))) kNil) kNil))
@[irreducible] noncomputable def fn_Uneven_lead_0 : Fn := defFn 1 m_Uneven_lead
theorem fe_Uneven_lead : fn_Uneven_lead_0 = defFn 1 m_Uneven_lead := by rw [fn_Uneven_lead_0]
noncomputable abbrev fn_Uneven_lead : Fn := fn_Uneven_lead_0
noncomputable def m_Even_events : M Fl := (gRet (gCallA fn_row_copy 1 0 (kV (gFld 45 "own_events" (pS 0)) kNil) kNil))
@[irreducible] noncomputable def fn_Even_events_0 : Fn := defFn 1 m_Even_events
theorem fe_Even_events : fn_Even_events_0 = defFn 1 m_Even_events := by rw [fn_Even_events_0]
noncomputable abbrev fn_Even_events : Fn := fn_Even_events_0
noncomputable def m_Endless_tail : M Fl := (gRet (gCallA fn_row_copy 1 0 (kV (toV (gOp oIx (pD (gFld 44 "own_parts" (pS 0))) (pD (gD (.int 2))))) kNil) kNil))
@[irreducible] noncomputable def fn_Endless_tail_0 : Fn := defFn 1 m_Endless_tail
theorem fe_Endless_tail : fn_Endless_tail_0 = defFn 1 m_Endless_tail := by rw [fn_Endless_tail_0]
noncomputable abbrev fn_Endless_tail : Fn := fn_Endless_tail_0
noncomputable def m_Endless_ring : M Fl := (gRet (gCallA fn_row_copy 1 0 (kV (toV (gOp oIx (pD (gFld 44 "own_parts" (pS 0))) (pD (gD (.int 1))))) kNil) kNil))
@[irreducible] noncomputable def fn_Endless_ring_0 : Fn := defFn 1 m_Endless_ring
theorem fe_Endless_ring : fn_Endless_ring_0 = defFn 1 m_Endless_ring := by rw [fn_Endless_ring_0]
noncomputable abbrev fn_Endless_ring : Fn := fn_Endless_ring_0
noncomputable def m_Endless_lead : M Fl := (gRet (gCallA fn_row_copy 1 0 (kV (toV (gOp oIx (pD (gFld 44 "own_parts" (pS 0))) (pD (gD (.int 0))))) kNil) kNil))
@[irreducible] noncomputable def fn_Endless_lead_0 : Fn := defFn 1 m_Endless_lead
theorem fe_Endless_lead : fn_Endless_lead_0 = defFn 1 m_Endless_lead := by rw [fn_Endless_lead_0]
noncomputable abbrev fn_Endless_lead : Fn := fn_Endless_lead_0
noncomputable def m_Bounded_heights : M Fl := (gRet (gCallA fn_row_copy 1 0 (kV (gFld 43 "own_heights" (pS 0)) kNil) kNil))
@[irreducible] noncomputable def fn_Bounded_heights_0 : Fn := defFn 1 m_Bounded_heights
theorem fe_Bounded_heights : fn_Bounded_heights_0 = defFn 1 m_Bounded_heights := by rw [fn_Bounded_heights_0]
noncomputable abbrev fn_Bounded_heights : Fn := fn_Bounded_heights_0
noncomputable def m_Bounded_standings : M Fl := (gRet (gCallA fn_row_copy 1 0 (kV (gFld 43 "own_standings" (pS 0)) kNil) kNil))
@[irreducible] noncomputable def fn_Bounded_standings_0 : Fn := defFn 1 m_Bounded_standings
theorem fe_Bounded_standings : fn_Bounded_standings_0 = defFn 1 m_Bounded_standings := by rw [fn_Bounded_standings_0]
noncomputable abbrev fn_Bounded_standings : Fn := fn_Bounded_standings_0
noncomputable def m_Bounded_events : M Fl := (gRet (gCallA fn_row_copy 1 0 (kV (gFld 43 "own_events" (pS 0)) kNil) kNil))
@[irreducible] noncomputable def fn_Bounded_events_0 : Fn := defFn 1 m_Bounded_events
theorem fe_Bounded_events : fn_Bounded_events_0 = defFn 1 m_Bounded_events := by rw [fn_Bounded_events_0]
noncomputable abbrev fn_Bounded_events : Fn := fn_Bounded_events_0
noncomputable def m_Harmed_events : M Fl := (gRet (gCallA fn_row_copy 1 0 (kV (gFld 42 "own_events" (pS 0)) kNil) kNil))
@[irreducible] noncomputable def fn_Harmed_events_0 : Fn := defFn 1 m_Harmed_events
theorem fe_Harmed_events : fn_Harmed_events_0 = defFn 1 m_Harmed_events := by rw [fn_Harmed_events_0]
noncomputable abbrev fn_Harmed_events : Fn := fn_Harmed_events_0
noncomputable def m_Safe_table : M Fl := (gRet (gCallA fn_row_copy 1 0 (kV (gFld 41 "own_table" (pS 0)) kNil) kNil))
@[irreducible] noncomputable def fn_Safe_table_0 : Fn := defFn 1 m_Safe_table
theorem fe_Safe_table : fn_Safe_table_0 = defFn 1 m_Safe_table := by rw [fn_Safe_table_0]
noncomputable abbrev fn_Safe_table : Fn := fn_Safe_table_0
noncomputable def m_law_same (rec : Fn) : M Fl := (gSeq (gIfS (gB (gIsi [.lst, .tup] (pS 1))) (gSeq (gIfS (gOr (gB (toV (gOp oNe (pD (gIsi [.lst] (pS 0))) (pD (gIsi [.lst] (pS 1)))))) (gB (toV (gOp oNe (pD (gIsi [.tup] (pS 0))) (pD (gIsi [.tup] (pS 1))))))) (gRet (M.bind (gD (.bl false)) fun d => M.pure (.dat d))) (M.pure .nx))
    (gRet (M.bind (gAndV (toV (gOp oEq (pD (toV (gBi oLen (qCons (pS 0) qNil)))) (pD (toV (gBi oLen (qCons (pS 1) qNil)))))) (toV (gBi oAll (qCons (pD (toV (gLc [2] (gRange1 (toV (gBi oLen (qCons (pS 1) qNil)))) (bName 2) (M.pure true) (toV (gCallA rec 2 0 (kV (toV (gOp oIx (pS 0) (pS 2))) (kV (toV (gOp oIx (pS 1) (pS 2))) kNil)) kNil))))) qNil)))) fun d => M.pure (.dat d)))) (M.pure .nx))
    (gSeq (gIfS (gOr (gB (toV (gOp oNe (pD (gIsi [.bl] (pS 1))) (pD (gIsi [.bl] (pS 0)))))) (gB (toV (gOp oNe (pD (gIsi [.int] (pS 1))) (pD (gIsi [.int] (pS 0))))))) (gRet (M.bind (gD (.bl false)) fun d => M.pure (.dat d))) (M.pure .nx))
    (gSeq (gIfS (gB (toV (gOp oNe (pD (gIsi [.str] (pS 1))) (pD (gIsi [.str] (pS 0)))))) (gRet (M.bind (gD (.bl false)) fun d => M.pure (.dat d))) (M.pure .nx))
    (gRet (gIf (gB (toV (gOp oIsN (pS 1) (pD (gD .non))))) (gOp oIsN (pS 0) (pD (gD .non))) (M.bind (gAndV (toV (gOp oNotN (pS 0) (pD (gD .non)))) (toV (gOp oEq (pS 0) (pS 1)))) fun d => M.pure (.dat d)))))))
noncomputable def fnr_law_same : Nat → Fn
  | 0 => fun _ => .bad
  | j + 1 => defFn 3 (m_law_same (fnr_law_same j))
@[irreducible] noncomputable def fn_law_same (j : Nat) : Fn := fnr_law_same j
theorem fe_law_same {j : Nat} : fn_law_same j = fnr_law_same j := by rw [fn_law_same]
noncomputable def m_law_L1 : M Fl := (gTold 7 8 "c" (gLst (gCons (toV (gMethA 41 "table" fn_Safe_table 0 0 (pD (toV (gOp oIx (pS 5) (pD (gD (.int 0)))))) kNil kNil)) (gCons (toV (gMethA 42 "events" fn_Harmed_events 0 0 (pD (toV (gOp oIx (pS 5) (pD (gD (.int 1)))))) kNil kNil)) (gCons (toV (gMethA 43 "events" fn_Bounded_events 0 0 (pD (toV (gOp oIx (pS 5) (pD (gD (.int 2)))))) kNil kNil)) (gCons (toV (gMethA 43 "standings" fn_Bounded_standings 0 0 (pD (toV (gOp oIx (pS 5) (pD (gD (.int 2)))))) kNil kNil)) (gCons (toV (gMethA 43 "heights" fn_Bounded_heights 0 0 (pD (toV (gOp oIx (pS 5) (pD (gD (.int 2)))))) kNil kNil)) (gCons (toV (gMethA 44 "lead" fn_Endless_lead 0 0 (pD (toV (gOp oIx (pS 5) (pD (gD (.int 3)))))) kNil kNil)) (gCons (toV (gMethA 44 "ring" fn_Endless_ring 0 0 (pD (toV (gOp oIx (pS 5) (pD (gD (.int 3)))))) kNil kNil)) (gCons (toV (gMethA 44 "tail" fn_Endless_tail 0 0 (pD (toV (gOp oIx (pS 5) (pD (gD (.int 3)))))) kNil kNil)) (gCons (toV (gMethA 45 "events" fn_Even_events 0 0 (pD (toV (gOp oIx (pS 5) (pD (gD (.int 4)))))) kNil kNil)) (gCons (toV (gMethA 46 "lead" fn_Uneven_lead 0 0 (pD (toV (gOp oIx (pS 5) (pD (gD (.int 5)))))) kNil kNil)) (gCons (toV (gMethA 46 "ring" fn_Uneven_ring 0 0 (pD (toV (gOp oIx (pS 5) (pD (gD (.int 5)))))) kNil kNil)) (gCons (toV (gMethA 47 "pairs" fn_Alike_pairs 0 0 (pD (toV (gOp oIx (pS 5) (pD (gD (.int 6)))))) kNil kNil)) (gCons (toV (gMethA 48 "heard" fn_Unlike_heard 0 0 (pD (toV (gOp oIx (pS 5) (pD (gD (.int 7)))))) kNil kNil)) (gCons (toV (gMethA 49 "foes" fn_Least_foes 0 0 (pD (toV (gOp oIx (pS 5) (pD (gD (.int 8)))))) kNil kNil)) gNil))))))))))))))) (gNot (gB (toV (gCallA (fn_law_same 8) 2 0 (kV (toV (gVar 7)) (kV (toV (gOp oMul (pD (toV (gLst (gCons (toV (gVar 4)) gNil)))) (pD (gD (.int 14))))) kNil)) kNil)))) [([0], MO.app (.int 7)), ([0, 1], MO.app (.int 8)), ([0, 0, 2], MO.clr), ([0, 1, 2], MO.app (.int 9)), ([], MO.app .non)]
    (M.pure .nx))
noncomputable def m_law : M Fl := (gSeq (gSet 1 (gCallA fn_law_bag 1 0 (kV (toV (gVar 0)) kNil) kNil))
    (gSeq (gSet 2 (gCallA fn_law_take 2 0 (kS 1 (kV (gD (.int 50)) kNil)) kNil))
    (gRowsA 3 4 5 "b" (gLst (gCons (toV (gLst (gCons (gD (.str "a")) (gCons (toV (gVar 2)) gNil)))) (gCons (gTup (gCons (toV (gLst (gCons (gD (.str "b")) gNil))) (gCons (gD .non) gNil))) (gCons (gTup (gCons (gTup (gCons (toV (gLst (gCons (gD (.str "c")) gNil))) gNil)) (gCons (toV (gLst (gCons (toV (gLst (gCons (gD (.int 3)) gNil))) gNil))) gNil))) gNil)))) (gLst (gCons (toV (gLst (gCons (gD (.str "a")) (gCons (toV (gVar 2)) gNil)))) (gCons (gTup (gCons (toV (gLst (gCons (gD (.str "b")) gNil))) (gCons (gD .non) gNil))) (gCons (gTup (gCons (gTup (gCons (toV (gLst (gCons (gD (.str "c")) gNil))) gNil)) (gCons (toV (gLst (gCons (toV (gLst (gCons (gD (.int 3)) gNil))) gNil))) gNil))) gNil)))) (gLst (gCons (toV (gMake 41 fn_Safe_init 1 0 (kV (toV (gVar 3)) kNil) kNil)) (gCons (toV (gMake 42 fn_Harmed_init 1 0 (kV (toV (gVar 3)) kNil) kNil)) (gCons (toV (gMake 43 fn_Bounded_init 4 0 (kV (toV (gVar 2)) (kV (toV (gVar 3)) (kV (toV (gVar 3)) (kV (toV (gVar 3)) kNil)))) kNil)) (gCons (toV (gMake 44 fn_Endless_init 3 0 (kV (toV (gVar 3)) (kV (toV (gVar 3)) (kV (toV (gVar 3)) kNil))) kNil)) (gCons (toV (gMake 45 fn_Even_init 2 0 (kV (toV (gVar 2)) (kV (toV (gVar 3)) kNil)) kNil)) (gCons (toV (gMake 46 fn_Uneven_init 2 0 (kV (toV (gVar 3)) (kV (toV (gVar 3)) kNil)) kNil)) (gCons (toV (gMake 47 fn_Alike_init 1 0 (kV (toV (gVar 3)) kNil) kNil)) (gCons (toV (gMake 48 fn_Unlike_init 1 0 (kV (toV (gVar 3)) kNil) kNil)) (gCons (toV (gMake 49 fn_Least_init 2 0 (kV (gTup (gCons (gD (.int 2)) (gCons (gD (.int 2)) gNil))) (kV (toV (gVar 3)) kNil)) kNil)) gNil)))))))))) [([0], MO.app (.int 4)), ([0, 1], MO.clr), ([0, 0, 2], MO.app (.int 5)), ([0, 1, 2], MO.app (.int 6))]
    (gSeq (gFor (gRange1 (gD (.int 2))) (bName 6) (m_law_L1))
    (gRet (M.bind (gD (.bl true)) fun d => M.pure (.dat d)))))))
@[irreducible] noncomputable def fn_law_0 : Fn := defFn 9 m_law
theorem fe_law : fn_law_0 = defFn 9 m_law := by rw [fn_law_0]
end Lw
namespace Lw
open PySem PySem.Spec PyProof.Rows L2 G
open He (ga ma)
noncomputable abbrev N_law_bag : List Str := ["_law_script", "_law_seed", "_law_cell"]
theorem sc_law_bag : FnScope N_law_bag ["_law_script"] (defScope s_law_bag) := ⟨rfl, rfl, rfl, by decide +kernel, rfl, by decide +kernel, by decide +kernel⟩
noncomputable abbrev N_law_take : List Str := ["_law_bag_here", "_law_many", "_law_cell", "_law_digit", "_law_blend"]
theorem sc_law_take : FnScope N_law_take ["_law_bag_here", "_law_many"] (defScope s_law_take) := ⟨rfl, rfl, rfl, by decide +kernel, rfl, by decide +kernel, by decide +kernel⟩
noncomputable abbrev N_is_listed : List Str := ["value"]
theorem sc_is_listed : FnScope N_is_listed ["value"] (defScope s_is_listed) := ⟨rfl, rfl, rfl, by decide +kernel, rfl, by decide +kernel, by decide +kernel⟩
noncomputable abbrev N_copy_of : List Str := ["value", "item"]
theorem sc_copy_of : FnScope N_copy_of ["value"] (defScope s_copy_of) := ⟨rfl, rfl, rfl, by decide +kernel, rfl, by decide +kernel, by decide +kernel⟩
noncomputable abbrev N_row_copy : List Str := ["value", "item"]
theorem sc_row_copy : FnScope N_row_copy ["value"] (defScope s_row_copy) := ⟨rfl, rfl, rfl, by decide +kernel, rfl, by decide +kernel, by decide +kernel⟩
noncomputable abbrev N_Least_init : List Str := ["self", "size", "foes"]
theorem sc_Least_init : FnScope N_Least_init ["self", "size", "foes"] (defScope s_Least_init) := ⟨rfl, rfl, rfl, by decide +kernel, rfl, by decide +kernel, by decide +kernel⟩
noncomputable abbrev N_Unlike_init : List Str := ["self", "heard"]
theorem sc_Unlike_init : FnScope N_Unlike_init ["self", "heard"] (defScope s_Unlike_init) := ⟨rfl, rfl, rfl, by decide +kernel, rfl, by decide +kernel, by decide +kernel⟩
noncomputable abbrev N_Alike_init : List Str := ["self", "pairs"]
theorem sc_Alike_init : FnScope N_Alike_init ["self", "pairs"] (defScope s_Alike_init) := ⟨rfl, rfl, rfl, by decide +kernel, rfl, by decide +kernel, by decide +kernel⟩
noncomputable abbrev N_Uneven_init : List Str := ["self", "lead", "ring"]
theorem sc_Uneven_init : FnScope N_Uneven_init ["self", "lead", "ring"] (defScope s_Uneven_init) := ⟨rfl, rfl, rfl, by decide +kernel, rfl, by decide +kernel, by decide +kernel⟩
noncomputable abbrev N_Even_init : List Str := ["self", "most", "events"]
theorem sc_Even_init : FnScope N_Even_init ["self", "most", "events"] (defScope s_Even_init) := ⟨rfl, rfl, rfl, by decide +kernel, rfl, by decide +kernel, by decide +kernel⟩
noncomputable abbrev N_Endless_init : List Str := ["self", "lead", "ring", "tail"]
theorem sc_Endless_init : FnScope N_Endless_init ["self", "lead", "ring", "tail"] (defScope s_Endless_init) := ⟨rfl, rfl, rfl, by decide +kernel, rfl, by decide +kernel, by decide +kernel⟩
noncomputable abbrev N_Bounded_init : List Str := ["self", "most", "events", "standings", "heights"]
theorem sc_Bounded_init : FnScope N_Bounded_init ["self", "most", "events", "standings", "heights"] (defScope s_Bounded_init) := ⟨rfl, rfl, rfl, by decide +kernel, rfl, by decide +kernel, by decide +kernel⟩
noncomputable abbrev N_Harmed_init : List Str := ["self", "events"]
theorem sc_Harmed_init : FnScope N_Harmed_init ["self", "events"] (defScope s_Harmed_init) := ⟨rfl, rfl, rfl, by decide +kernel, rfl, by decide +kernel, by decide +kernel⟩
noncomputable abbrev N_Safe_init : List Str := ["self", "table"]
theorem sc_Safe_init : FnScope N_Safe_init ["self", "table"] (defScope s_Safe_init) := ⟨rfl, rfl, rfl, by decide +kernel, rfl, by decide +kernel, by decide +kernel⟩
noncomputable abbrev N_Least_foes : List Str := ["self"]
theorem sc_Least_foes : FnScope N_Least_foes ["self"] (defScope s_Least_foes) := ⟨rfl, rfl, rfl, by decide +kernel, rfl, by decide +kernel, by decide +kernel⟩
noncomputable abbrev N_Unlike_heard : List Str := ["self"]
theorem sc_Unlike_heard : FnScope N_Unlike_heard ["self"] (defScope s_Unlike_heard) := ⟨rfl, rfl, rfl, by decide +kernel, rfl, by decide +kernel, by decide +kernel⟩
noncomputable abbrev N_Alike_pairs : List Str := ["self"]
theorem sc_Alike_pairs : FnScope N_Alike_pairs ["self"] (defScope s_Alike_pairs) := ⟨rfl, rfl, rfl, by decide +kernel, rfl, by decide +kernel, by decide +kernel⟩
noncomputable abbrev N_Uneven_ring : List Str := ["self"]
theorem sc_Uneven_ring : FnScope N_Uneven_ring ["self"] (defScope s_Uneven_ring) := ⟨rfl, rfl, rfl, by decide +kernel, rfl, by decide +kernel, by decide +kernel⟩
noncomputable abbrev N_Uneven_lead : List Str := ["self"]
theorem sc_Uneven_lead : FnScope N_Uneven_lead ["self"] (defScope s_Uneven_lead) := ⟨rfl, rfl, rfl, by decide +kernel, rfl, by decide +kernel, by decide +kernel⟩
noncomputable abbrev N_Even_events : List Str := ["self"]
theorem sc_Even_events : FnScope N_Even_events ["self"] (defScope s_Even_events) := ⟨rfl, rfl, rfl, by decide +kernel, rfl, by decide +kernel, by decide +kernel⟩
noncomputable abbrev N_Endless_tail : List Str := ["self"]
theorem sc_Endless_tail : FnScope N_Endless_tail ["self"] (defScope s_Endless_tail) := ⟨rfl, rfl, rfl, by decide +kernel, rfl, by decide +kernel, by decide +kernel⟩
noncomputable abbrev N_Endless_ring : List Str := ["self"]
theorem sc_Endless_ring : FnScope N_Endless_ring ["self"] (defScope s_Endless_ring) := ⟨rfl, rfl, rfl, by decide +kernel, rfl, by decide +kernel, by decide +kernel⟩
noncomputable abbrev N_Endless_lead : List Str := ["self"]
theorem sc_Endless_lead : FnScope N_Endless_lead ["self"] (defScope s_Endless_lead) := ⟨rfl, rfl, rfl, by decide +kernel, rfl, by decide +kernel, by decide +kernel⟩
noncomputable abbrev N_Bounded_heights : List Str := ["self"]
theorem sc_Bounded_heights : FnScope N_Bounded_heights ["self"] (defScope s_Bounded_heights) := ⟨rfl, rfl, rfl, by decide +kernel, rfl, by decide +kernel, by decide +kernel⟩
noncomputable abbrev N_Bounded_standings : List Str := ["self"]
theorem sc_Bounded_standings : FnScope N_Bounded_standings ["self"] (defScope s_Bounded_standings) := ⟨rfl, rfl, rfl, by decide +kernel, rfl, by decide +kernel, by decide +kernel⟩
noncomputable abbrev N_Bounded_events : List Str := ["self"]
theorem sc_Bounded_events : FnScope N_Bounded_events ["self"] (defScope s_Bounded_events) := ⟨rfl, rfl, rfl, by decide +kernel, rfl, by decide +kernel, by decide +kernel⟩
noncomputable abbrev N_Harmed_events : List Str := ["self"]
theorem sc_Harmed_events : FnScope N_Harmed_events ["self"] (defScope s_Harmed_events) := ⟨rfl, rfl, rfl, by decide +kernel, rfl, by decide +kernel, by decide +kernel⟩
noncomputable abbrev N_Safe_table : List Str := ["self"]
theorem sc_Safe_table : FnScope N_Safe_table ["self"] (defScope s_Safe_table) := ⟨rfl, rfl, rfl, by decide +kernel, rfl, by decide +kernel, by decide +kernel⟩
noncomputable abbrev N_law_same : List Str := ["_law_found", "_law_due", "_law_k"]
theorem sc_law_same : FnScope N_law_same ["_law_found", "_law_due"] (defScope s_law_same) := ⟨rfl, rfl, rfl, by decide +kernel, rfl, by decide +kernel, by decide +kernel⟩
noncomputable abbrev N_law : List Str := ["_law_script", "_law_bag_here", "_law_most", "_law_rows", "_law_due", "_law_made", "_law_again", "_law_told", "_law_one"]
theorem sc_law : FnScope N_law ["_law_script"] (defScope s_law) := ⟨rfl, rfl, rfl, by decide +kernel, rfl, by decide +kernel, by decide +kernel⟩
noncomputable def gm0 (K : PySem.W.Frag) : Gam := { T := [], K := K, cl := gmC K, xc := gmC K, dict := dictK, dict_mono := fun e h => let ⟨kvs, h1, r⟩ := h; ⟨kvs, e _ _ h1, r⟩, clos := fun _ _ _ _ => False, clos_mono := fun _ h => h }
noncomputable abbrev gmL (P : Program) (w : World) (mg : Str → Option Value) (base : Heap) (K : PySem.W.Frag) : Gam := gmCb (gm0 K) P w mg base 1
noncomputable abbrev GSD (P : Program) (w : World) (mg : Str → Option Value) (base : Heap) (K : PySem.W.Frag) (N : List Str) (q : Str) (st : Stmt) (f : Addr) (lev : Nat) (m : M Fl) : Prop := ∀ (cdv : Value) (A : Around) (outer : List PySem.Env) (s : Shared) (H : Hp) (E : XK) (fx : Fx), cdv = codeV K f → Room lev (A.deeper (envOfC q (defScope st) s.heap.objs.size f cdv)) → GSs (gmL P w mg base K) fx (upW E) (cxOf (CXg P w) P w (gmL P w mg base K).K mg base N q (defScope st) f cdv A outer s H E) (defBody st) m
structure Tx (K : PySem.W.Frag) (mg : Str → Option Value) (w : World) : Prop where
  z_all : mg "all" = none
  z_bool : mg "bool" = none
  z_int : mg "int" = none
  z_isinstance : mg "isinstance" = none
  z_len : mg "len" = none
  z_list : mg "list" = none
  z_range : mg "range" = none
  z_str : mg "str" = none
  z_tuple : mg "tuple" = none
  g__law_bag : mg "_law_bag" = some (.ref (ga K "_law_bag"))
  g__law_same : mg "_law_same" = some (.ref (ga K "_law_same"))
  g__law_take : mg "_law_take" = some (.ref (ga K "_law_take"))
  g_copy_of : mg "copy_of" = some (.ref (ga K "copy_of"))
  g_is_listed : mg "is_listed" = some (.ref (ga K "is_listed"))
  g_law : mg "law" = some (.ref (ga K "law"))
  g_row_copy : mg "row_copy" = some (.ref (ga K "row_copy"))
  c_Alike : Cls K (ga K "Alike")
  c_Bounded : Cls K (ga K "Bounded")
  c_Endless : Cls K (ga K "Endless")
  c_Even : Cls K (ga K "Even")
  c_Harmed : Cls K (ga K "Harmed")
  c_Least : Cls K (ga K "Least")
  c_Safe : Cls K (ga K "Safe")
  c_Uneven : Cls K (ga K "Uneven")
  c_Unlike : Cls K (ga K "Unlike")
  g_Alike : mg "Alike" = some (.ref (ga K "Alike"))
  g_Bounded : mg "Bounded" = some (.ref (ga K "Bounded"))
  g_Endless : mg "Endless" = some (.ref (ga K "Endless"))
  g_Even : mg "Even" = some (.ref (ga K "Even"))
  g_Harmed : mg "Harmed" = some (.ref (ga K "Harmed"))
  g_Least : mg "Least" = some (.ref (ga K "Least"))
  g_Safe : mg "Safe" = some (.ref (ga K "Safe"))
  g_Uneven : mg "Uneven" = some (.ref (ga K "Uneven"))
  g_Unlike : mg "Unlike" = some (.ref (ga K "Unlike"))
  h_Alike_pairs : Meth K (ga K "Alike") "pairs" (ma K (ga K "Alike") "pairs")
  h_Bounded_events : Meth K (ga K "Bounded") "events" (ma K (ga K "Bounded") "events")
  h_Bounded_heights : Meth K (ga K "Bounded") "heights" (ma K (ga K "Bounded") "heights")
  h_Bounded_standings : Meth K (ga K "Bounded") "standings" (ma K (ga K "Bounded") "standings")
  h_Endless_lead : Meth K (ga K "Endless") "lead" (ma K (ga K "Endless") "lead")
  h_Endless_ring : Meth K (ga K "Endless") "ring" (ma K (ga K "Endless") "ring")
  h_Endless_tail : Meth K (ga K "Endless") "tail" (ma K (ga K "Endless") "tail")
  h_Even_events : Meth K (ga K "Even") "events" (ma K (ga K "Even") "events")
  h_Harmed_events : Meth K (ga K "Harmed") "events" (ma K (ga K "Harmed") "events")
  h_Least_foes : Meth K (ga K "Least") "foes" (ma K (ga K "Least") "foes")
  h_Safe_table : Meth K (ga K "Safe") "table" (ma K (ga K "Safe") "table")
  h_Uneven_lead : Meth K (ga K "Uneven") "lead" (ma K (ga K "Uneven") "lead")
  h_Uneven_ring : Meth K (ga K "Uneven") "ring" (ma K (ga K "Uneven") "ring")
  h_Unlike_heard : Meth K (ga K "Unlike") "heard" (ma K (ga K "Unlike") "heard")
  m_Alike : Mk K (ga K "Alike") (ma K (ga K "Alike") "__init__")
  m_Bounded : Mk K (ga K "Bounded") (ma K (ga K "Bounded") "__init__")
  m_Endless : Mk K (ga K "Endless") (ma K (ga K "Endless") "__init__")
  m_Even : Mk K (ga K "Even") (ma K (ga K "Even") "__init__")
  m_Harmed : Mk K (ga K "Harmed") (ma K (ga K "Harmed") "__init__")
  m_Least : Mk K (ga K "Least") (ma K (ga K "Least") "__init__")
  m_Safe : Mk K (ga K "Safe") (ma K (ga K "Safe") "__init__")
  m_Uneven : Mk K (ga K "Uneven") (ma K (ga K "Uneven") "__init__")
  m_Unlike : Mk K (ga K "Unlike") (ma K (ga K "Unlike") "__init__")
  n_Alike_own_pairs : NoAttr K (ga K "Alike") "own_pairs"
  n_Bounded_own_events : NoAttr K (ga K "Bounded") "own_events"
  n_Bounded_own_heights : NoAttr K (ga K "Bounded") "own_heights"
  n_Bounded_own_most : NoAttr K (ga K "Bounded") "own_most"
  n_Bounded_own_standings : NoAttr K (ga K "Bounded") "own_standings"
  n_Endless_own_parts : NoAttr K (ga K "Endless") "own_parts"
  n_Even_own_events : NoAttr K (ga K "Even") "own_events"
  n_Even_own_most : NoAttr K (ga K "Even") "own_most"
  n_Harmed_own_events : NoAttr K (ga K "Harmed") "own_events"
  n_Least_own_foes : NoAttr K (ga K "Least") "own_foes"
  n_Least_own_size : NoAttr K (ga K "Least") "own_size"
  n_Safe_own_table : NoAttr K (ga K "Safe") "own_table"
  n_Uneven_own_parts : NoAttr K (ga K "Uneven") "own_parts"
  n_Unlike_own_heard : NoAttr K (ga K "Unlike") "own_heard"
  f_law_bag : ∃ fd, FunD K "_law_bag" "_law_bag" (defArgs s_law_bag) (defBody s_law_bag) (defScope s_law_bag) [] [] (ga K "_law_bag") fd
  f_law_take : ∃ fd, FunD K "_law_take" "_law_take" (defArgs s_law_take) (defBody s_law_take) (defScope s_law_take) [] [] (ga K "_law_take") fd
  f_is_listed : ∃ fd, FunD K "is_listed" "is_listed" (defArgs s_is_listed) (defBody s_is_listed) (defScope s_is_listed) [] [] (ga K "is_listed") fd
  f_copy_of : ∃ fd, FunD K "copy_of" "copy_of" (defArgs s_copy_of) (defBody s_copy_of) (defScope s_copy_of) [] [] (ga K "copy_of") fd
  f_row_copy : ∃ fd, FunD K "row_copy" "row_copy" (defArgs s_row_copy) (defBody s_row_copy) (defScope s_row_copy) [] [] (ga K "row_copy") fd
  f_Least_init : ∃ fd, FunD K "__init__" "Least.__init__" (defArgs s_Least_init) (defBody s_Least_init) (defScope s_Least_init) [] [] (ma K (ga K "Least") "__init__") fd
  f_Unlike_init : ∃ fd, FunD K "__init__" "Unlike.__init__" (defArgs s_Unlike_init) (defBody s_Unlike_init) (defScope s_Unlike_init) [] [] (ma K (ga K "Unlike") "__init__") fd
  f_Alike_init : ∃ fd, FunD K "__init__" "Alike.__init__" (defArgs s_Alike_init) (defBody s_Alike_init) (defScope s_Alike_init) [] [] (ma K (ga K "Alike") "__init__") fd
  f_Uneven_init : ∃ fd, FunD K "__init__" "Uneven.__init__" (defArgs s_Uneven_init) (defBody s_Uneven_init) (defScope s_Uneven_init) [] [] (ma K (ga K "Uneven") "__init__") fd
  f_Even_init : ∃ fd, FunD K "__init__" "Even.__init__" (defArgs s_Even_init) (defBody s_Even_init) (defScope s_Even_init) [] [] (ma K (ga K "Even") "__init__") fd
  f_Endless_init : ∃ fd, FunD K "__init__" "Endless.__init__" (defArgs s_Endless_init) (defBody s_Endless_init) (defScope s_Endless_init) [] [] (ma K (ga K "Endless") "__init__") fd
  f_Bounded_init : ∃ fd, FunD K "__init__" "Bounded.__init__" (defArgs s_Bounded_init) (defBody s_Bounded_init) (defScope s_Bounded_init) [] [] (ma K (ga K "Bounded") "__init__") fd
  f_Harmed_init : ∃ fd, FunD K "__init__" "Harmed.__init__" (defArgs s_Harmed_init) (defBody s_Harmed_init) (defScope s_Harmed_init) [] [] (ma K (ga K "Harmed") "__init__") fd
  f_Safe_init : ∃ fd, FunD K "__init__" "Safe.__init__" (defArgs s_Safe_init) (defBody s_Safe_init) (defScope s_Safe_init) [] [] (ma K (ga K "Safe") "__init__") fd
  f_Least_foes : ∃ fd, FunD K "foes" "Least.foes" (defArgs s_Least_foes) (defBody s_Least_foes) (defScope s_Least_foes) [] [] (ma K (ga K "Least") "foes") fd
  f_Unlike_heard : ∃ fd, FunD K "heard" "Unlike.heard" (defArgs s_Unlike_heard) (defBody s_Unlike_heard) (defScope s_Unlike_heard) [] [] (ma K (ga K "Unlike") "heard") fd
  f_Alike_pairs : ∃ fd, FunD K "pairs" "Alike.pairs" (defArgs s_Alike_pairs) (defBody s_Alike_pairs) (defScope s_Alike_pairs) [] [] (ma K (ga K "Alike") "pairs") fd
  f_Uneven_ring : ∃ fd, FunD K "ring" "Uneven.ring" (defArgs s_Uneven_ring) (defBody s_Uneven_ring) (defScope s_Uneven_ring) [] [] (ma K (ga K "Uneven") "ring") fd
  f_Uneven_lead : ∃ fd, FunD K "lead" "Uneven.lead" (defArgs s_Uneven_lead) (defBody s_Uneven_lead) (defScope s_Uneven_lead) [] [] (ma K (ga K "Uneven") "lead") fd
  f_Even_events : ∃ fd, FunD K "events" "Even.events" (defArgs s_Even_events) (defBody s_Even_events) (defScope s_Even_events) [] [] (ma K (ga K "Even") "events") fd
  f_Endless_tail : ∃ fd, FunD K "tail" "Endless.tail" (defArgs s_Endless_tail) (defBody s_Endless_tail) (defScope s_Endless_tail) [] [] (ma K (ga K "Endless") "tail") fd
  f_Endless_ring : ∃ fd, FunD K "ring" "Endless.ring" (defArgs s_Endless_ring) (defBody s_Endless_ring) (defScope s_Endless_ring) [] [] (ma K (ga K "Endless") "ring") fd
  f_Endless_lead : ∃ fd, FunD K "lead" "Endless.lead" (defArgs s_Endless_lead) (defBody s_Endless_lead) (defScope s_Endless_lead) [] [] (ma K (ga K "Endless") "lead") fd
  f_Bounded_heights : ∃ fd, FunD K "heights" "Bounded.heights" (defArgs s_Bounded_heights) (defBody s_Bounded_heights) (defScope s_Bounded_heights) [] [] (ma K (ga K "Bounded") "heights") fd
  f_Bounded_standings : ∃ fd, FunD K "standings" "Bounded.standings" (defArgs s_Bounded_standings) (defBody s_Bounded_standings) (defScope s_Bounded_standings) [] [] (ma K (ga K "Bounded") "standings") fd
  f_Bounded_events : ∃ fd, FunD K "events" "Bounded.events" (defArgs s_Bounded_events) (defBody s_Bounded_events) (defScope s_Bounded_events) [] [] (ma K (ga K "Bounded") "events") fd
  f_Harmed_events : ∃ fd, FunD K "events" "Harmed.events" (defArgs s_Harmed_events) (defBody s_Harmed_events) (defScope s_Harmed_events) [] [] (ma K (ga K "Harmed") "events") fd
  f_Safe_table : ∃ fd, FunD K "table" "Safe.table" (defArgs s_Safe_table) (defBody s_Safe_table) (defScope s_Safe_table) [] [] (ma K (ga K "Safe") "table") fd
  f_law_same : ∃ fd, FunD K "_law_same" "_law_same" (defArgs s_law_same) (defBody s_law_same) (defScope s_law_same) [] [] (ga K "_law_same") fd
  f_law : ∃ fd, FunD K "law" "law" (defArgs s_law) (defBody s_law) (defScope s_law) [] [] (ga K "law") fd
theorem tx_of {K : PySem.W.Frag} {mg : Str → Option Value} {h : Heap} (X : K.In h) (G : h.Ns mainGlobals mg) {w : World} (c : SaysH fa fn ex ts w K) : Tx K mg w where
  z_all := He.free_ok X G (c.a.fact 0 (f := .free "all"))
  z_bool := He.free_ok X G (c.a.fact 1 (f := .free "bool"))
  z_int := He.free_ok X G (c.a.fact 2 (f := .free "int"))
  z_isinstance := He.free_ok X G (c.a.fact 3 (f := .free "isinstance"))
  z_len := He.free_ok X G (c.a.fact 4 (f := .free "len"))
  z_list := He.free_ok X G (c.a.fact 5 (f := .free "list"))
  z_range := He.free_ok X G (c.a.fact 6 (f := .free "range"))
  z_str := He.free_ok X G (c.a.fact 7 (f := .free "str"))
  z_tuple := He.free_ok X G (c.a.fact 8 (f := .free "tuple"))
  g__law_bag := He.glo_ok X G (c.a.fact 9 (f := .glo "_law_bag"))
  g__law_same := He.glo_ok X G (c.a.fact 10 (f := .glo "_law_same"))
  g__law_take := He.glo_ok X G (c.a.fact 11 (f := .glo "_law_take"))
  g_copy_of := He.glo_ok X G (c.a.fact 12 (f := .glo "copy_of"))
  g_is_listed := He.glo_ok X G (c.a.fact 13 (f := .glo "is_listed"))
  g_law := He.glo_ok X G (c.a.fact 14 (f := .glo "law"))
  g_row_copy := He.glo_ok X G (c.a.fact 15 (f := .glo "row_copy"))
  c_Alike := He.cls_ok (c.a.fact 16 (f := .cls "Alike"))
  c_Bounded := He.cls_ok (c.a.fact 17 (f := .cls "Bounded"))
  c_Endless := He.cls_ok (c.a.fact 18 (f := .cls "Endless"))
  c_Even := He.cls_ok (c.a.fact 19 (f := .cls "Even"))
  c_Harmed := He.cls_ok (c.a.fact 20 (f := .cls "Harmed"))
  c_Least := He.cls_ok (c.a.fact 21 (f := .cls "Least"))
  c_Safe := He.cls_ok (c.a.fact 22 (f := .cls "Safe"))
  c_Uneven := He.cls_ok (c.a.fact 23 (f := .cls "Uneven"))
  c_Unlike := He.cls_ok (c.a.fact 24 (f := .cls "Unlike"))
  g_Alike := He.glo_ok X G (c.a.fact 25 (f := .glo "Alike"))
  g_Bounded := He.glo_ok X G (c.a.fact 26 (f := .glo "Bounded"))
  g_Endless := He.glo_ok X G (c.a.fact 27 (f := .glo "Endless"))
  g_Even := He.glo_ok X G (c.a.fact 28 (f := .glo "Even"))
  g_Harmed := He.glo_ok X G (c.a.fact 29 (f := .glo "Harmed"))
  g_Least := He.glo_ok X G (c.a.fact 30 (f := .glo "Least"))
  g_Safe := He.glo_ok X G (c.a.fact 31 (f := .glo "Safe"))
  g_Uneven := He.glo_ok X G (c.a.fact 32 (f := .glo "Uneven"))
  g_Unlike := He.glo_ok X G (c.a.fact 33 (f := .glo "Unlike"))
  h_Alike_pairs := He.meth_ok (c.a.fact 34 (f := .meth "Alike" "pairs"))
  h_Bounded_events := He.meth_ok (c.a.fact 35 (f := .meth "Bounded" "events"))
  h_Bounded_heights := He.meth_ok (c.a.fact 36 (f := .meth "Bounded" "heights"))
  h_Bounded_standings := He.meth_ok (c.a.fact 37 (f := .meth "Bounded" "standings"))
  h_Endless_lead := He.meth_ok (c.a.fact 38 (f := .meth "Endless" "lead"))
  h_Endless_ring := He.meth_ok (c.a.fact 39 (f := .meth "Endless" "ring"))
  h_Endless_tail := He.meth_ok (c.a.fact 40 (f := .meth "Endless" "tail"))
  h_Even_events := He.meth_ok (c.a.fact 41 (f := .meth "Even" "events"))
  h_Harmed_events := He.meth_ok (c.a.fact 42 (f := .meth "Harmed" "events"))
  h_Least_foes := He.meth_ok (c.a.fact 43 (f := .meth "Least" "foes"))
  h_Safe_table := He.meth_ok (c.a.fact 44 (f := .meth "Safe" "table"))
  h_Uneven_lead := He.meth_ok (c.a.fact 45 (f := .meth "Uneven" "lead"))
  h_Uneven_ring := He.meth_ok (c.a.fact 46 (f := .meth "Uneven" "ring"))
  h_Unlike_heard := He.meth_ok (c.a.fact 47 (f := .meth "Unlike" "heard"))
  m_Alike := He.mkr_ok (c.a.fact 48 (f := .mkr "Alike"))
  m_Bounded := He.mkr_ok (c.a.fact 49 (f := .mkr "Bounded"))
  m_Endless := He.mkr_ok (c.a.fact 50 (f := .mkr "Endless"))
  m_Even := He.mkr_ok (c.a.fact 51 (f := .mkr "Even"))
  m_Harmed := He.mkr_ok (c.a.fact 52 (f := .mkr "Harmed"))
  m_Least := He.mkr_ok (c.a.fact 53 (f := .mkr "Least"))
  m_Safe := He.mkr_ok (c.a.fact 54 (f := .mkr "Safe"))
  m_Uneven := He.mkr_ok (c.a.fact 55 (f := .mkr "Uneven"))
  m_Unlike := He.mkr_ok (c.a.fact 56 (f := .mkr "Unlike"))
  n_Alike_own_pairs := He.noat_ok (c.a.fact 57 (f := .noat "Alike" "own_pairs"))
  n_Bounded_own_events := He.noat_ok (c.a.fact 58 (f := .noat "Bounded" "own_events"))
  n_Bounded_own_heights := He.noat_ok (c.a.fact 59 (f := .noat "Bounded" "own_heights"))
  n_Bounded_own_most := He.noat_ok (c.a.fact 60 (f := .noat "Bounded" "own_most"))
  n_Bounded_own_standings := He.noat_ok (c.a.fact 61 (f := .noat "Bounded" "own_standings"))
  n_Endless_own_parts := He.noat_ok (c.a.fact 62 (f := .noat "Endless" "own_parts"))
  n_Even_own_events := He.noat_ok (c.a.fact 63 (f := .noat "Even" "own_events"))
  n_Even_own_most := He.noat_ok (c.a.fact 64 (f := .noat "Even" "own_most"))
  n_Harmed_own_events := He.noat_ok (c.a.fact 65 (f := .noat "Harmed" "own_events"))
  n_Least_own_foes := He.noat_ok (c.a.fact 66 (f := .noat "Least" "own_foes"))
  n_Least_own_size := He.noat_ok (c.a.fact 67 (f := .noat "Least" "own_size"))
  n_Safe_own_table := He.noat_ok (c.a.fact 68 (f := .noat "Safe" "own_table"))
  n_Uneven_own_parts := He.noat_ok (c.a.fact 69 (f := .noat "Uneven" "own_parts"))
  n_Unlike_own_heard := He.noat_ok (c.a.fact 70 (f := .noat "Unlike" "own_heard"))
  f_law_bag := c.a.def_ 0 (d := d_law_bag) rfl
  f_law_take := c.a.def_ 1 (d := d_law_take) rfl
  f_is_listed := c.a.def_ 2 (d := d_is_listed) rfl
  f_copy_of := c.a.def_ 3 (d := d_copy_of) rfl
  f_row_copy := c.a.def_ 4 (d := d_row_copy) rfl
  f_Least_init := c.a.def_ 5 (d := d_Least_init) rfl
  f_Unlike_init := c.a.def_ 6 (d := d_Unlike_init) rfl
  f_Alike_init := c.a.def_ 7 (d := d_Alike_init) rfl
  f_Uneven_init := c.a.def_ 8 (d := d_Uneven_init) rfl
  f_Even_init := c.a.def_ 9 (d := d_Even_init) rfl
  f_Endless_init := c.a.def_ 10 (d := d_Endless_init) rfl
  f_Bounded_init := c.a.def_ 11 (d := d_Bounded_init) rfl
  f_Harmed_init := c.a.def_ 12 (d := d_Harmed_init) rfl
  f_Safe_init := c.a.def_ 13 (d := d_Safe_init) rfl
  f_Least_foes := c.a.def_ 14 (d := d_Least_foes) rfl
  f_Unlike_heard := c.a.def_ 15 (d := d_Unlike_heard) rfl
  f_Alike_pairs := c.a.def_ 16 (d := d_Alike_pairs) rfl
  f_Uneven_ring := c.a.def_ 17 (d := d_Uneven_ring) rfl
  f_Uneven_lead := c.a.def_ 18 (d := d_Uneven_lead) rfl
  f_Even_events := c.a.def_ 19 (d := d_Even_events) rfl
  f_Endless_tail := c.a.def_ 20 (d := d_Endless_tail) rfl
  f_Endless_ring := c.a.def_ 21 (d := d_Endless_ring) rfl
  f_Endless_lead := c.a.def_ 22 (d := d_Endless_lead) rfl
  f_Bounded_heights := c.a.def_ 23 (d := d_Bounded_heights) rfl
  f_Bounded_standings := c.a.def_ 24 (d := d_Bounded_standings) rfl
  f_Bounded_events := c.a.def_ 25 (d := d_Bounded_events) rfl
  f_Harmed_events := c.a.def_ 26 (d := d_Harmed_events) rfl
  f_Safe_table := c.a.def_ 27 (d := d_Safe_table) rfl
  f_law_same := c.a.def_ 28 (d := d_law_same) rfl
  f_law := c.a.def_ 29 (d := d_law) rfl
section
variable {P : Program} {w : World} {K : PySem.W.Frag} {mg : Str → Option Value} {base : Heap}
structure Tyy (K : PySem.W.Frag) (mg : Str → Option Value) (w : World) (base : Heap) : Prop extends Tx K mg w where
  tb : ∀ f ∈ tfs K, LamX.TabB base mg (codeA K f) (tabA K f)
  tc : ∀ f ∈ tfs K, codeV K f = .ref (codeA K f)
  tn : ((tfs K).map (tabA K)).Nodup
theorem Tx.k_law_bag (T : Tx K mg w) : PySem.W.keepIn K (.ref (ga K "_law_bag")) = true := by obtain ⟨fd, F⟩ := T.f_law_bag; exact F.kp
theorem Tx.k_law_take (T : Tx K mg w) : PySem.W.keepIn K (.ref (ga K "_law_take")) = true := by obtain ⟨fd, F⟩ := T.f_law_take; exact F.kp
theorem Tx.k_is_listed (T : Tx K mg w) : PySem.W.keepIn K (.ref (ga K "is_listed")) = true := by obtain ⟨fd, F⟩ := T.f_is_listed; exact F.kp
theorem Tx.k_copy_of (T : Tx K mg w) : PySem.W.keepIn K (.ref (ga K "copy_of")) = true := by obtain ⟨fd, F⟩ := T.f_copy_of; exact F.kp
theorem Tx.k_row_copy (T : Tx K mg w) : PySem.W.keepIn K (.ref (ga K "row_copy")) = true := by obtain ⟨fd, F⟩ := T.f_row_copy; exact F.kp
theorem Tx.k_law_same (T : Tx K mg w) : PySem.W.keepIn K (.ref (ga K "_law_same")) = true := by obtain ⟨fd, F⟩ := T.f_law_same; exact F.kp
theorem gs_law_bag (T : Tyy K mg w base) : GSD P w mg base K N_law_bag "_law_bag" s_law_bag (ga K "_law_bag") 0 (m_law_bag) := fun cdv A outer s H E fx hcd hr =>
  (gss_cons (gs_set 1 sc_law_bag.nd (GV.e gv_int))
    (gss_cons (gs_for own rfl (gi_seq rfl (GE.v (ge_slice rfl (gp_var 0) go_none (go_some (GV.p gv_int))))) (gg_name 2 sc_law_bag.nd) nox_name (gss_one (gs_set 1 sc_law_bag.nd (ge_op op_mod ok_mod (GE.p (ge_ty call_int1 ok_int T.z_int (gq_cons (GE.p (ge_op op_addK ok_add (GE.p (ge_op op_addK ok_add (GE.p (ge_op op_mulK ok_mul (gp_var 1) (GV.p gv_int))) (GE.p (ge_op op_mod ok_mod (GE.p (ge_ty call_int1 ok_int T.z_int (gq_cons (gp_var 2) gq_nil))) (GV.p gv_int))))) (GV.p gv_int))) gq_nil))) (GV.p gv_int)))))
    (gss_one (gs_ret (ge_lst (ga_cons (GE.v (ge_ty call_list_of ok_list T.z_list (gq_cons (GE.p (ge_slice rfl (gp_var 0) go_none (go_some (GV.p gv_int)))) gq_nil))) (ga_cons gv_int (ga_cons gv_int (ga_cons (GE.v (ge_var 1)) (ga_cons gv_int ga_nil))))))))))
theorem ok_law_bag (T : Tyy K mg w base) : FnA P w (gmL P w mg base K).K mg base 1 (ga K "_law_bag") 1 [] (spG (gmL P w mg base K) 1 fn_law_bag) := by
  unfold fn_law_bag
  rw [fe_law_bag]
  obtain ⟨fd, F⟩ := T.f_law_bag
  exact fnA_all (Γ := gmL P w mg base K) (gfunD (Γ := gmL P w mg base K) F sc_law_bag (gs_law_bag T)) (F.bindsN fun _ _ _ _ _ _ us hl => match us, hl with | [_], _ => rfl) rfl
theorem gs_law_take (T : Tyy K mg w base) : GSD P w mg base K N_law_take "_law_take" s_law_take (ga K "_law_take") 0 (m_law_take) := fun cdv A outer s H E fx hcd hr =>
  (gss_cons (gs_if (GW.t (gw_and (gt_cp (op_eqD hr.units) ok_eq (GE.p (ge_ix rfl (gp_var 0) (GV.p gv_int))) (GV.p gv_int)) (gw_and1 (gt_cp op_lt ok_lt (GE.p (ge_ix rfl (gp_var 0) (GV.p gv_int))) (GE.p (ge_bi call_len ok_len T.z_len (gq_cons (GE.p (ge_ix rfl (gp_var 0) (GV.p gv_int))) gq_nil))))))) (gss_cons (gs_set 2 sc_law_take.nd (ge_ix rfl (GE.p (ge_ix rfl (gp_var 0) (GV.p gv_int))) (GE.p (ge_ix rfl (gp_var 0) (GV.p gv_int)))))
    (gss_cons (gs_asg (GE.v (ge_op op_addK ok_add (GE.p (ge_ix rfl (gp_var 0) (GV.p gv_int))) (GV.p gv_int))) (gg_item (E := upW E) 0 (GV.p gv_int)) nox_item)
    (gss_one (gs_if (gt_cp op_ge ok_ge (gp_var 2) (GE.p (ge_op op_pow ok_pow (GV.p gv_int) (GV.p gv_int)))) (gss_one (gs_asg (GE.v (ge_var 2)) (gg_item (E := upW E) 0 (GV.p gv_int)) nox_item)) (gss_one (gs_asg (GE.v (ge_op op_mod ok_mod (GE.p (ge_ty call_int1 ok_int T.z_int (gq_cons (GE.p (ge_op op_addK ok_add (GE.p (ge_op op_addK ok_add (GE.p (ge_op op_mulK ok_mul (GE.p (ge_ix rfl (gp_var 0) (GV.p gv_int))) (GV.p gv_int))) (GE.p (ge_op op_mod ok_mod (GE.p (ge_ty call_int1 ok_int T.z_int (gq_cons (gp_var 2) gq_nil))) (GV.p gv_int))))) (GV.p gv_int))) gq_nil))) (GV.p gv_int))) (gg_item (E := upW E) 0 (GV.p gv_int)) nox_item)))))) gss_nil)
    (gss_cons (gs_if (gt_cp op_gt ok_gt (GE.p (ge_ix rfl (gp_var 0) (GV.p gv_int))) (GV.p gv_int)) (gss_cons (gs_set 3 sc_law_take.nd (ge_op op_mod ok_mod (GE.p (ge_ty call_int1 ok_int T.z_int (gq_cons (GE.p (ge_ix rfl (gp_var 0) (GV.p gv_int))) gq_nil))) (gp_var 1)))
    (gss_cons (gs_asg (GE.v (ge_op op_fdivW ok_fdiv (GE.p (ge_ty call_int1 ok_int T.z_int (gq_cons (GE.p (ge_ix rfl (gp_var 0) (GV.p gv_int))) gq_nil))) (gp_var 1))) (gg_item (E := upW E) 0 (GV.p gv_int)) nox_item)
    (gss_one (gs_ret (ge_var 3))))) gss_nil)
    (gss_cons (gs_asg (GE.v (ge_op op_addK ok_add (GE.p (ge_ix rfl (gp_var 0) (GV.p gv_int))) (GV.p gv_int))) (gg_item (E := upW E) 0 (GV.p gv_int)) nox_item)
    (gss_cons (gs_set 4 sc_law_take.nd (ge_op op_mod ok_mod (GE.p (ge_ty call_int1 ok_int T.z_int (gq_cons (GE.p (ge_op op_addK ok_add (GE.p (ge_ix rfl (gp_var 0) (GV.p gv_int))) (GE.p (ge_op op_mulK ok_mul (GE.p (ge_ix rfl (gp_var 0) (GV.p gv_int))) (GV.p gv_int))))) gq_nil))) (GV.p gv_int)))
    (gss_cons (gs_asg (GE.v (ge_op op_mod ok_mod (GE.p (ge_ty call_int1 ok_int T.z_int (gq_cons (GE.p (ge_op op_addK ok_add (GE.p (ge_op op_addK ok_add (GE.p (ge_op op_pow ok_pow (gp_var 4) (GV.p gv_int))) (GE.p (ge_op op_mulK ok_mul (GV.p gv_int) (gp_var 4))))) (GV.p gv_int))) gq_nil))) (GV.p gv_int))) (gg_item (E := upW E) 0 (GV.p gv_int)) nox_item)
    (gss_one (gs_ret (ge_op op_mod ok_mod (GE.p (ge_ty call_int1 ok_int T.z_int (gq_cons (GE.p (ge_op op_addK ok_add (GE.p (ge_op op_fdivW ok_fdiv (GE.p (ge_ix rfl (gp_var 0) (GV.p gv_int))) (GV.p gv_int))) (GE.p (ge_op op_mulK ok_mul (GE.p (ge_op op_mod ok_mod (GE.p (ge_ty call_int1 ok_int T.z_int (gq_cons (GE.p (ge_ix rfl (gp_var 0) (GV.p gv_int))) gq_nil))) (GV.p gv_int))) (GV.p gv_int))))) gq_nil))) (gp_var 1)))))))))
theorem ok_law_take (T : Tyy K mg w base) : FnA P w (gmL P w mg base K).K mg base 1 (ga K "_law_take") 2 [] (spG (gmL P w mg base K) 2 fn_law_take) := by
  unfold fn_law_take
  rw [fe_law_take]
  obtain ⟨fd, F⟩ := T.f_law_take
  exact fnA_all (Γ := gmL P w mg base K) (gfunD (Γ := gmL P w mg base K) F sc_law_take (gs_law_take T)) (F.bindsN fun _ _ _ _ _ _ us hl => match us, hl with | [_, _], _ => rfl) rfl
theorem gs_is_listed (T : Tyy K mg w base) : GSD P w mg base K N_is_listed "is_listed" s_is_listed (ga K "is_listed") 0 (m_is_listed) := fun cdv A outer s H E fx hcd hr =>
  (gss_one (gs_ret (GV.e (gv_isiT [.lst, .tup] rfl T.z_isinstance (gp_var 0) (pt_cons .lst T.z_list (by decide +kernel) (pt_cons .tup T.z_tuple (by decide +kernel) pt_nil))))))
theorem ok_is_listed (T : Tyy K mg w base) : FnA P w (gmL P w mg base K).K mg base 1 (ga K "is_listed") 1 [] (spG (gmL P w mg base K) 1 fn_is_listed) := by
  unfold fn_is_listed
  rw [fe_is_listed]
  obtain ⟨fd, F⟩ := T.f_is_listed
  exact fnA_all (Γ := gmL P w mg base K) (gfunD (Γ := gmL P w mg base K) F sc_is_listed (gs_is_listed T)) (F.bindsN fun _ _ _ _ _ _ us hl => match us, hl with | [_], _ => rfl) rfl
theorem gs_copy_of (T : Tyy K mg w base) {rec : Fn} {j : Nat} (IH : FnA P w (gmL P w mg base K).K mg base (j + 0) (ga K "copy_of") 1 [] (spG (gmL P w mg base K) 1 rec)) : GSD P w mg base K N_copy_of "copy_of" s_copy_of (ga K "copy_of") (j + 0) (m_copy_of rec) := fun cdv A outer s H E fx hcd hr =>
  (gss_cons (gs_if (gt_val (gv_isi .lst rfl T.z_isinstance T.z_list (by decide +kernel) (gp_var 0))) (gss_one (gs_ret (by exact ge_lc (own := [("item", 1)]) rfl sc_copy_of.nd (gi_seq rfl (GE.v (ge_var 0))) (blkOk_by (own := [("item", 1)]) (by rfl)) (fun fx s H C cl fp => (gg_name 1 sc_copy_of.nd)) nox_name (fun s H C cl fp => gts_nil) (fun fx s H C cl fp => (GE.v (ge_callA (k := j + 0) (n := 1) (ks := []) (f := (ga K "copy_of")) (fn := rec) (by exact IH) (by exact hr) T.g_copy_of T.k_copy_of pasN (gk_v (GE.v (ge_var 1)) gk_nil) gkw_nil)))))) gss_nil)
    (gss_one (gs_ret (ge_if (gt_val (gv_isi .tup rfl T.z_isinstance T.z_tuple (by decide +kernel) (gp_var 0))) (ge_ty call_tuple_of ok_tuple T.z_tuple (gq_cons (GE.p (by exact ge_lc (own := [("item", 1)]) rfl sc_copy_of.nd (gi_seq rfl (GE.v (ge_var 0))) (blkOk_by (own := [("item", 1)]) (by rfl)) (fun fx s H C cl fp => (gg_name 1 sc_copy_of.nd)) nox_name (fun s H C cl fp => gts_nil) (fun fx s H C cl fp => (GE.v (ge_callA (k := j + 0) (n := 1) (ks := []) (f := (ga K "copy_of")) (fn := rec) (by exact IH) (by exact hr) T.g_copy_of T.k_copy_of pasN (gk_v (GE.v (ge_var 1)) gk_nil) gkw_nil))))) gq_nil)) (ge_var 0)))))
theorem okr_copy_of (T : Tyy K mg w base) : ∀ j, FnA P w (gmL P w mg base K).K mg base (j + 0) (ga K "copy_of") 1 [] (spG (gmL P w mg base K) 1 (fnr_copy_of j))
  | 0 => fun A outer s H us ws vs zs Q E hr e0 r rz l1 l2 ⟨as, F0, Ar, hn, q⟩ => q.elim
  | j + 1 => by
    obtain ⟨fd, F⟩ := T.f_copy_of
    have h := gfunD (Γ := gmL P w mg base K) (P := P) (w := w) (base := base) F sc_copy_of (gs_copy_of T (okr_copy_of T j))
    rw [show j + 1 + 0 = j + 0 + 1 by omega]
    exact fnA_all h (F.bindsN fun _ _ _ _ _ _ us hl => match us, hl with | [_], _ => rfl) rfl
theorem ok_copy_of (T : Tyy K mg w base) (j : Nat) : FnA P w (gmL P w mg base K).K mg base (j + 0) (ga K "copy_of") 1 [] (spG (gmL P w mg base K) 1 (fn_copy_of j)) := by
  rw [fe_copy_of]
  exact okr_copy_of T j
theorem gs_row_copy (T : Tyy K mg w base) : GSD P w mg base K N_row_copy "row_copy" s_row_copy (ga K "row_copy") 8 (m_row_copy) := fun cdv A outer s H E fx hcd hr =>
  (gss_one (gs_ret (ge_if (gt_val (GE.v (ge_callA (ok_is_listed T) (hr.mono (by decide)) T.g_is_listed T.k_is_listed pas (gk_v (GE.v (ge_var 0)) gk_nil) gkw_nil))) (by exact ge_lc (own := [("item", 1)]) rfl sc_row_copy.nd (gi_seq rfl (GE.v (ge_var 0))) (blkOk_by (own := [("item", 1)]) (by rfl)) (fun fx s H C cl fp => (gg_name 1 sc_row_copy.nd)) nox_name (fun s H C cl fp => gts_nil) (fun fx s H C cl fp => (GE.v (ge_callA (ok_copy_of T 8) (hr.mono (by decide)) T.g_copy_of T.k_copy_of pasN (gk_v (GE.v (ge_var 1)) gk_nil) gkw_nil)))) (ge_lst ga_nil))))
theorem ok_row_copy (T : Tyy K mg w base) : FnA P w (gmL P w mg base K).K mg base 9 (ga K "row_copy") 1 [] (spG (gmL P w mg base K) 1 fn_row_copy) := by
  unfold fn_row_copy
  rw [fe_row_copy]
  obtain ⟨fd, F⟩ := T.f_row_copy
  exact fnA_all (Γ := gmL P w mg base K) (gfunD (Γ := gmL P w mg base K) F sc_row_copy (gs_row_copy T)) (F.bindsN fun _ _ _ _ _ _ us hl => match us, hl with | [_], _ => rfl) rfl
theorem gs_Least_init (T : Tyy K mg w base) : GSD P w mg base K N_Least_init "Least.__init__" s_Least_init (ma K (ga K "Least") "__init__") 9 (m_Least_init) := fun cdv A outer s H E fx hcd hr =>
  (gss_cons (gs_setF (i := 0) (c := 49) rfl T.c_Least T.n_Least_own_size (GE.v (ge_var 1)))
    (gss_one (gs_setF (i := 0) (c := 49) rfl T.c_Least T.n_Least_own_foes (GE.v (ge_callA (ok_row_copy T) (hr.mono (by decide)) T.g_row_copy T.k_row_copy pas (gk_v (GE.v (ge_var 2)) gk_nil) gkw_nil)))))
theorem ok_Least_init (T : Tyy K mg w base) : FnA P w (gmL P w mg base K).K mg base 10 (ma K (ga K "Least") "__init__") 3 [] (spG (gmL P w mg base K) 3 fn_Least_init) := by
  unfold fn_Least_init
  rw [fe_Least_init]
  obtain ⟨fd, F⟩ := T.f_Least_init
  exact fnA_all (Γ := gmL P w mg base K) (gfunD (Γ := gmL P w mg base K) F sc_Least_init (gs_Least_init T)) (F.bindsN fun _ _ _ _ _ _ us hl => match us, hl with | [_, _, _], _ => rfl) rfl
theorem gs_Unlike_init (T : Tyy K mg w base) : GSD P w mg base K N_Unlike_init "Unlike.__init__" s_Unlike_init (ma K (ga K "Unlike") "__init__") 9 (m_Unlike_init) := fun cdv A outer s H E fx hcd hr =>
  (gss_one (gs_setF (i := 0) (c := 48) rfl T.c_Unlike T.n_Unlike_own_heard (GE.v (ge_callA (ok_row_copy T) (hr.mono (by decide)) T.g_row_copy T.k_row_copy pas (gk_v (GE.v (ge_var 1)) gk_nil) gkw_nil))))
theorem ok_Unlike_init (T : Tyy K mg w base) : FnA P w (gmL P w mg base K).K mg base 10 (ma K (ga K "Unlike") "__init__") 2 [] (spG (gmL P w mg base K) 2 fn_Unlike_init) := by
  unfold fn_Unlike_init
  rw [fe_Unlike_init]
  obtain ⟨fd, F⟩ := T.f_Unlike_init
  exact fnA_all (Γ := gmL P w mg base K) (gfunD (Γ := gmL P w mg base K) F sc_Unlike_init (gs_Unlike_init T)) (F.bindsN fun _ _ _ _ _ _ us hl => match us, hl with | [_, _], _ => rfl) rfl
theorem gs_Alike_init (T : Tyy K mg w base) : GSD P w mg base K N_Alike_init "Alike.__init__" s_Alike_init (ma K (ga K "Alike") "__init__") 9 (m_Alike_init) := fun cdv A outer s H E fx hcd hr =>
  (gss_one (gs_setF (i := 0) (c := 47) rfl T.c_Alike T.n_Alike_own_pairs (GE.v (ge_callA (ok_row_copy T) (hr.mono (by decide)) T.g_row_copy T.k_row_copy pas (gk_v (GE.v (ge_var 1)) gk_nil) gkw_nil))))
theorem ok_Alike_init (T : Tyy K mg w base) : FnA P w (gmL P w mg base K).K mg base 10 (ma K (ga K "Alike") "__init__") 2 [] (spG (gmL P w mg base K) 2 fn_Alike_init) := by
  unfold fn_Alike_init
  rw [fe_Alike_init]
  obtain ⟨fd, F⟩ := T.f_Alike_init
  exact fnA_all (Γ := gmL P w mg base K) (gfunD (Γ := gmL P w mg base K) F sc_Alike_init (gs_Alike_init T)) (F.bindsN fun _ _ _ _ _ _ us hl => match us, hl with | [_, _], _ => rfl) rfl
theorem gs_Uneven_init (T : Tyy K mg w base) : GSD P w mg base K N_Uneven_init "Uneven.__init__" s_Uneven_init (ma K (ga K "Uneven") "__init__") 9 (m_Uneven_init) := fun cdv A outer s H E fx hcd hr =>
  (gss_one (gs_setF (i := 0) (c := 46) rfl T.c_Uneven T.n_Uneven_own_parts (gv_tup (ga_cons (GE.v (ge_callA (ok_row_copy T) (hr.mono (by decide)) T.g_row_copy T.k_row_copy pas (gk_v (GE.v (ge_var 1)) gk_nil) gkw_nil)) (ga_cons (GE.v (ge_callA (ok_row_copy T) (hr.mono (by decide)) T.g_row_copy T.k_row_copy pas (gk_v (GE.v (ge_var 2)) gk_nil) gkw_nil)) ga_nil)))))
theorem ok_Uneven_init (T : Tyy K mg w base) : FnA P w (gmL P w mg base K).K mg base 10 (ma K (ga K "Uneven") "__init__") 3 [] (spG (gmL P w mg base K) 3 fn_Uneven_init) := by
  unfold fn_Uneven_init
  rw [fe_Uneven_init]
  obtain ⟨fd, F⟩ := T.f_Uneven_init
  exact fnA_all (Γ := gmL P w mg base K) (gfunD (Γ := gmL P w mg base K) F sc_Uneven_init (gs_Uneven_init T)) (F.bindsN fun _ _ _ _ _ _ us hl => match us, hl with | [_, _, _], _ => rfl) rfl
theorem gs_Even_init (T : Tyy K mg w base) : GSD P w mg base K N_Even_init "Even.__init__" s_Even_init (ma K (ga K "Even") "__init__") 9 (m_Even_init) := fun cdv A outer s H E fx hcd hr =>
  (gss_cons (gs_setF (i := 0) (c := 45) rfl T.c_Even T.n_Even_own_most (GE.v (ge_var 1)))
    (gss_one (gs_setF (i := 0) (c := 45) rfl T.c_Even T.n_Even_own_events (GE.v (ge_callA (ok_row_copy T) (hr.mono (by decide)) T.g_row_copy T.k_row_copy pas (gk_v (GE.v (ge_var 2)) gk_nil) gkw_nil)))))
theorem ok_Even_init (T : Tyy K mg w base) : FnA P w (gmL P w mg base K).K mg base 10 (ma K (ga K "Even") "__init__") 3 [] (spG (gmL P w mg base K) 3 fn_Even_init) := by
  unfold fn_Even_init
  rw [fe_Even_init]
  obtain ⟨fd, F⟩ := T.f_Even_init
  exact fnA_all (Γ := gmL P w mg base K) (gfunD (Γ := gmL P w mg base K) F sc_Even_init (gs_Even_init T)) (F.bindsN fun _ _ _ _ _ _ us hl => match us, hl with | [_, _, _], _ => rfl) rfl
theorem gs_Endless_init (T : Tyy K mg w base) : GSD P w mg base K N_Endless_init "Endless.__init__" s_Endless_init (ma K (ga K "Endless") "__init__") 9 (m_Endless_init) := fun cdv A outer s H E fx hcd hr =>
  (gss_one (gs_setF (i := 0) (c := 44) rfl T.c_Endless T.n_Endless_own_parts (gv_tup (ga_cons (GE.v (ge_callA (ok_row_copy T) (hr.mono (by decide)) T.g_row_copy T.k_row_copy pas (gk_v (GE.v (ge_var 1)) gk_nil) gkw_nil)) (ga_cons (GE.v (ge_callA (ok_row_copy T) (hr.mono (by decide)) T.g_row_copy T.k_row_copy pas (gk_v (GE.v (ge_var 2)) gk_nil) gkw_nil)) (ga_cons (GE.v (ge_callA (ok_row_copy T) (hr.mono (by decide)) T.g_row_copy T.k_row_copy pas (gk_v (GE.v (ge_var 3)) gk_nil) gkw_nil)) ga_nil))))))
theorem ok_Endless_init (T : Tyy K mg w base) : FnA P w (gmL P w mg base K).K mg base 10 (ma K (ga K "Endless") "__init__") 4 [] (spG (gmL P w mg base K) 4 fn_Endless_init) := by
  unfold fn_Endless_init
  rw [fe_Endless_init]
  obtain ⟨fd, F⟩ := T.f_Endless_init
  exact fnA_all (Γ := gmL P w mg base K) (gfunD (Γ := gmL P w mg base K) F sc_Endless_init (gs_Endless_init T)) (F.bindsN fun _ _ _ _ _ _ us hl => match us, hl with | [_, _, _, _], _ => rfl) rfl
theorem gs_Bounded_init (T : Tyy K mg w base) : GSD P w mg base K N_Bounded_init "Bounded.__init__" s_Bounded_init (ma K (ga K "Bounded") "__init__") 9 (m_Bounded_init) := fun cdv A outer s H E fx hcd hr =>
  (gss_cons (gs_setF (i := 0) (c := 43) rfl T.c_Bounded T.n_Bounded_own_most (GE.v (ge_var 1)))
    (gss_cons (gs_setF (i := 0) (c := 43) rfl T.c_Bounded T.n_Bounded_own_events (GE.v (ge_callA (ok_row_copy T) (hr.mono (by decide)) T.g_row_copy T.k_row_copy pas (gk_v (GE.v (ge_var 2)) gk_nil) gkw_nil)))
    (gss_cons (gs_setF (i := 0) (c := 43) rfl T.c_Bounded T.n_Bounded_own_standings (GE.v (ge_callA (ok_row_copy T) (hr.mono (by decide)) T.g_row_copy T.k_row_copy pas (gk_v (GE.v (ge_var 3)) gk_nil) gkw_nil)))
    (gss_one (gs_setF (i := 0) (c := 43) rfl T.c_Bounded T.n_Bounded_own_heights (GE.v (ge_callA (ok_row_copy T) (hr.mono (by decide)) T.g_row_copy T.k_row_copy pas (gk_v (GE.v (ge_var 4)) gk_nil) gkw_nil)))))))
theorem ok_Bounded_init (T : Tyy K mg w base) : FnA P w (gmL P w mg base K).K mg base 10 (ma K (ga K "Bounded") "__init__") 5 [] (spG (gmL P w mg base K) 5 fn_Bounded_init) := by
  unfold fn_Bounded_init
  rw [fe_Bounded_init]
  obtain ⟨fd, F⟩ := T.f_Bounded_init
  exact fnA_all (Γ := gmL P w mg base K) (gfunD (Γ := gmL P w mg base K) F sc_Bounded_init (gs_Bounded_init T)) (F.bindsN fun _ _ _ _ _ _ us hl => match us, hl with | [_, _, _, _, _], _ => rfl) rfl
theorem gs_Harmed_init (T : Tyy K mg w base) : GSD P w mg base K N_Harmed_init "Harmed.__init__" s_Harmed_init (ma K (ga K "Harmed") "__init__") 9 (m_Harmed_init) := fun cdv A outer s H E fx hcd hr =>
  (gss_one (gs_setF (i := 0) (c := 42) rfl T.c_Harmed T.n_Harmed_own_events (GE.v (ge_callA (ok_row_copy T) (hr.mono (by decide)) T.g_row_copy T.k_row_copy pas (gk_v (GE.v (ge_var 1)) gk_nil) gkw_nil))))
theorem ok_Harmed_init (T : Tyy K mg w base) : FnA P w (gmL P w mg base K).K mg base 10 (ma K (ga K "Harmed") "__init__") 2 [] (spG (gmL P w mg base K) 2 fn_Harmed_init) := by
  unfold fn_Harmed_init
  rw [fe_Harmed_init]
  obtain ⟨fd, F⟩ := T.f_Harmed_init
  exact fnA_all (Γ := gmL P w mg base K) (gfunD (Γ := gmL P w mg base K) F sc_Harmed_init (gs_Harmed_init T)) (F.bindsN fun _ _ _ _ _ _ us hl => match us, hl with | [_, _], _ => rfl) rfl
theorem gs_Safe_init (T : Tyy K mg w base) : GSD P w mg base K N_Safe_init "Safe.__init__" s_Safe_init (ma K (ga K "Safe") "__init__") 9 (m_Safe_init) := fun cdv A outer s H E fx hcd hr =>
  (gss_one (gs_setF (i := 0) (c := 41) rfl T.c_Safe T.n_Safe_own_table (GE.v (ge_callA (ok_row_copy T) (hr.mono (by decide)) T.g_row_copy T.k_row_copy pas (gk_v (GE.v (ge_var 1)) gk_nil) gkw_nil))))
theorem ok_Safe_init (T : Tyy K mg w base) : FnA P w (gmL P w mg base K).K mg base 10 (ma K (ga K "Safe") "__init__") 2 [] (spG (gmL P w mg base K) 2 fn_Safe_init) := by
  unfold fn_Safe_init
  rw [fe_Safe_init]
  obtain ⟨fd, F⟩ := T.f_Safe_init
  exact fnA_all (Γ := gmL P w mg base K) (gfunD (Γ := gmL P w mg base K) F sc_Safe_init (gs_Safe_init T)) (F.bindsN fun _ _ _ _ _ _ us hl => match us, hl with | [_, _], _ => rfl) rfl
theorem gs_Least_foes (T : Tyy K mg w base) : GSD P w mg base K N_Least_foes "Least.foes" s_Least_foes (ma K (ga K "Least") "foes") 9 (m_Least_foes) := fun cdv A outer s H E fx hcd hr =>
  (gss_one (gs_ret (ge_callA (ok_row_copy T) (hr.mono (by decide)) T.g_row_copy T.k_row_copy pas (gk_v (gv_fld (c := 49) rfl T.c_Least T.n_Least_own_foes (gp_var 0)) gk_nil) gkw_nil)))
theorem ok_Least_foes (T : Tyy K mg w base) : FnA P w (gmL P w mg base K).K mg base 10 (ma K (ga K "Least") "foes") 1 [] (spG (gmL P w mg base K) 1 fn_Least_foes) := by
  unfold fn_Least_foes
  rw [fe_Least_foes]
  obtain ⟨fd, F⟩ := T.f_Least_foes
  exact fnA_all (Γ := gmL P w mg base K) (gfunD (Γ := gmL P w mg base K) F sc_Least_foes (gs_Least_foes T)) (F.bindsN fun _ _ _ _ _ _ us hl => match us, hl with | [_], _ => rfl) rfl
theorem gs_Unlike_heard (T : Tyy K mg w base) : GSD P w mg base K N_Unlike_heard "Unlike.heard" s_Unlike_heard (ma K (ga K "Unlike") "heard") 9 (m_Unlike_heard) := fun cdv A outer s H E fx hcd hr =>
  (gss_one (gs_ret (ge_callA (ok_row_copy T) (hr.mono (by decide)) T.g_row_copy T.k_row_copy pas (gk_v (gv_fld (c := 48) rfl T.c_Unlike T.n_Unlike_own_heard (gp_var 0)) gk_nil) gkw_nil)))
theorem ok_Unlike_heard (T : Tyy K mg w base) : FnA P w (gmL P w mg base K).K mg base 10 (ma K (ga K "Unlike") "heard") 1 [] (spG (gmL P w mg base K) 1 fn_Unlike_heard) := by
  unfold fn_Unlike_heard
  rw [fe_Unlike_heard]
  obtain ⟨fd, F⟩ := T.f_Unlike_heard
  exact fnA_all (Γ := gmL P w mg base K) (gfunD (Γ := gmL P w mg base K) F sc_Unlike_heard (gs_Unlike_heard T)) (F.bindsN fun _ _ _ _ _ _ us hl => match us, hl with | [_], _ => rfl) rfl
theorem gs_Alike_pairs (T : Tyy K mg w base) : GSD P w mg base K N_Alike_pairs "Alike.pairs" s_Alike_pairs (ma K (ga K "Alike") "pairs") 9 (m_Alike_pairs) := fun cdv A outer s H E fx hcd hr =>
  (gss_one (gs_ret (ge_callA (ok_row_copy T) (hr.mono (by decide)) T.g_row_copy T.k_row_copy pas (gk_v (gv_fld (c := 47) rfl T.c_Alike T.n_Alike_own_pairs (gp_var 0)) gk_nil) gkw_nil)))
theorem ok_Alike_pairs (T : Tyy K mg w base) : FnA P w (gmL P w mg base K).K mg base 10 (ma K (ga K "Alike") "pairs") 1 [] (spG (gmL P w mg base K) 1 fn_Alike_pairs) := by
  unfold fn_Alike_pairs
  rw [fe_Alike_pairs]
  obtain ⟨fd, F⟩ := T.f_Alike_pairs
  exact fnA_all (Γ := gmL P w mg base K) (gfunD (Γ := gmL P w mg base K) F sc_Alike_pairs (gs_Alike_pairs T)) (F.bindsN fun _ _ _ _ _ _ us hl => match us, hl with | [_], _ => rfl) rfl
theorem gs_Uneven_ring (T : Tyy K mg w base) : GSD P w mg base K N_Uneven_ring "Uneven.ring" s_Uneven_ring (ma K (ga K "Uneven") "ring") 9 (m_Uneven_ring) := fun cdv A outer s H E fx hcd hr =>
  (gss_one (gs_ret (ge_callA (ok_row_copy T) (hr.mono (by decide)) T.g_row_copy T.k_row_copy pas (gk_v (GE.v (ge_ix rfl (GV.p (gv_fld (c := 46) rfl T.c_Uneven T.n_Uneven_own_parts (gp_var 0))) (GV.p gv_int))) gk_nil) gkw_nil)))
theorem ok_Uneven_ring (T : Tyy K mg w base) : FnA P w (gmL P w mg base K).K mg base 10 (ma K (ga K "Uneven") "ring") 1 [] (spG (gmL P w mg base K) 1 fn_Uneven_ring) := by
  unfold fn_Uneven_ring
  rw [fe_Uneven_ring]
  obtain ⟨fd, F⟩ := T.f_Uneven_ring
  exact fnA_all (Γ := gmL P w mg base K) (gfunD (Γ := gmL P w mg base K) F sc_Uneven_ring (gs_Uneven_ring T)) (F.bindsN fun _ _ _ _ _ _ us hl => match us, hl with | [_], _ => rfl) rfl
theorem gs_Uneven_lead (T : Tyy K mg w base) : GSD P w mg base K N_Uneven_lead "Uneven.lead" s_Uneven_lead (ma K (ga K "Uneven") "lead") 9 (m_Uneven_lead) := fun cdv A outer s H E fx hcd hr =>
  (gss_one (gs_ret (ge_callA (ok_row_copy T) (hr.mono (by decide)) T.g_row_copy T.k_row_copy pas (gk_v (GE.v (ge_ix rfl (GV.p (gv_fld (c := 46) rfl T.c_Uneven T.n_Uneven_own_parts (gp_var 0))) (GV.p gv_int))) gk_nil) gkw_nil)))
theorem ok_Uneven_lead (T : Tyy K mg w base) : FnA P w (gmL P w mg base K).K mg base 10 (ma K (ga K "Uneven") "lead") 1 [] (spG (gmL P w mg base K) 1 fn_Uneven_lead) := by
  unfold fn_Uneven_lead
  rw [fe_Uneven_lead]
  obtain ⟨fd, F⟩ := T.f_Uneven_lead
  exact fnA_all (Γ := gmL P w mg base K) (gfunD (Γ := gmL P w mg base K) F sc_Uneven_lead (gs_Uneven_lead T)) (F.bindsN fun _ _ _ _ _ _ us hl => match us, hl with | [_], _ => rfl) rfl
theorem gs_Even_events (T : Tyy K mg w base) : GSD P w mg base K N_Even_events "Even.events" s_Even_events (ma K (ga K "Even") "events") 9 (m_Even_events) := fun cdv A outer s H E fx hcd hr =>
  (gss_one (gs_ret (ge_callA (ok_row_copy T) (hr.mono (by decide)) T.g_row_copy T.k_row_copy pas (gk_v (gv_fld (c := 45) rfl T.c_Even T.n_Even_own_events (gp_var 0)) gk_nil) gkw_nil)))
theorem ok_Even_events (T : Tyy K mg w base) : FnA P w (gmL P w mg base K).K mg base 10 (ma K (ga K "Even") "events") 1 [] (spG (gmL P w mg base K) 1 fn_Even_events) := by
  unfold fn_Even_events
  rw [fe_Even_events]
  obtain ⟨fd, F⟩ := T.f_Even_events
  exact fnA_all (Γ := gmL P w mg base K) (gfunD (Γ := gmL P w mg base K) F sc_Even_events (gs_Even_events T)) (F.bindsN fun _ _ _ _ _ _ us hl => match us, hl with | [_], _ => rfl) rfl
theorem gs_Endless_tail (T : Tyy K mg w base) : GSD P w mg base K N_Endless_tail "Endless.tail" s_Endless_tail (ma K (ga K "Endless") "tail") 9 (m_Endless_tail) := fun cdv A outer s H E fx hcd hr =>
  (gss_one (gs_ret (ge_callA (ok_row_copy T) (hr.mono (by decide)) T.g_row_copy T.k_row_copy pas (gk_v (GE.v (ge_ix rfl (GV.p (gv_fld (c := 44) rfl T.c_Endless T.n_Endless_own_parts (gp_var 0))) (GV.p gv_int))) gk_nil) gkw_nil)))
theorem ok_Endless_tail (T : Tyy K mg w base) : FnA P w (gmL P w mg base K).K mg base 10 (ma K (ga K "Endless") "tail") 1 [] (spG (gmL P w mg base K) 1 fn_Endless_tail) := by
  unfold fn_Endless_tail
  rw [fe_Endless_tail]
  obtain ⟨fd, F⟩ := T.f_Endless_tail
  exact fnA_all (Γ := gmL P w mg base K) (gfunD (Γ := gmL P w mg base K) F sc_Endless_tail (gs_Endless_tail T)) (F.bindsN fun _ _ _ _ _ _ us hl => match us, hl with | [_], _ => rfl) rfl
theorem gs_Endless_ring (T : Tyy K mg w base) : GSD P w mg base K N_Endless_ring "Endless.ring" s_Endless_ring (ma K (ga K "Endless") "ring") 9 (m_Endless_ring) := fun cdv A outer s H E fx hcd hr =>
  (gss_one (gs_ret (ge_callA (ok_row_copy T) (hr.mono (by decide)) T.g_row_copy T.k_row_copy pas (gk_v (GE.v (ge_ix rfl (GV.p (gv_fld (c := 44) rfl T.c_Endless T.n_Endless_own_parts (gp_var 0))) (GV.p gv_int))) gk_nil) gkw_nil)))
theorem ok_Endless_ring (T : Tyy K mg w base) : FnA P w (gmL P w mg base K).K mg base 10 (ma K (ga K "Endless") "ring") 1 [] (spG (gmL P w mg base K) 1 fn_Endless_ring) := by
  unfold fn_Endless_ring
  rw [fe_Endless_ring]
  obtain ⟨fd, F⟩ := T.f_Endless_ring
  exact fnA_all (Γ := gmL P w mg base K) (gfunD (Γ := gmL P w mg base K) F sc_Endless_ring (gs_Endless_ring T)) (F.bindsN fun _ _ _ _ _ _ us hl => match us, hl with | [_], _ => rfl) rfl
theorem gs_Endless_lead (T : Tyy K mg w base) : GSD P w mg base K N_Endless_lead "Endless.lead" s_Endless_lead (ma K (ga K "Endless") "lead") 9 (m_Endless_lead) := fun cdv A outer s H E fx hcd hr =>
  (gss_one (gs_ret (ge_callA (ok_row_copy T) (hr.mono (by decide)) T.g_row_copy T.k_row_copy pas (gk_v (GE.v (ge_ix rfl (GV.p (gv_fld (c := 44) rfl T.c_Endless T.n_Endless_own_parts (gp_var 0))) (GV.p gv_int))) gk_nil) gkw_nil)))
theorem ok_Endless_lead (T : Tyy K mg w base) : FnA P w (gmL P w mg base K).K mg base 10 (ma K (ga K "Endless") "lead") 1 [] (spG (gmL P w mg base K) 1 fn_Endless_lead) := by
  unfold fn_Endless_lead
  rw [fe_Endless_lead]
  obtain ⟨fd, F⟩ := T.f_Endless_lead
  exact fnA_all (Γ := gmL P w mg base K) (gfunD (Γ := gmL P w mg base K) F sc_Endless_lead (gs_Endless_lead T)) (F.bindsN fun _ _ _ _ _ _ us hl => match us, hl with | [_], _ => rfl) rfl
theorem gs_Bounded_heights (T : Tyy K mg w base) : GSD P w mg base K N_Bounded_heights "Bounded.heights" s_Bounded_heights (ma K (ga K "Bounded") "heights") 9 (m_Bounded_heights) := fun cdv A outer s H E fx hcd hr =>
  (gss_one (gs_ret (ge_callA (ok_row_copy T) (hr.mono (by decide)) T.g_row_copy T.k_row_copy pas (gk_v (gv_fld (c := 43) rfl T.c_Bounded T.n_Bounded_own_heights (gp_var 0)) gk_nil) gkw_nil)))
theorem ok_Bounded_heights (T : Tyy K mg w base) : FnA P w (gmL P w mg base K).K mg base 10 (ma K (ga K "Bounded") "heights") 1 [] (spG (gmL P w mg base K) 1 fn_Bounded_heights) := by
  unfold fn_Bounded_heights
  rw [fe_Bounded_heights]
  obtain ⟨fd, F⟩ := T.f_Bounded_heights
  exact fnA_all (Γ := gmL P w mg base K) (gfunD (Γ := gmL P w mg base K) F sc_Bounded_heights (gs_Bounded_heights T)) (F.bindsN fun _ _ _ _ _ _ us hl => match us, hl with | [_], _ => rfl) rfl
theorem gs_Bounded_standings (T : Tyy K mg w base) : GSD P w mg base K N_Bounded_standings "Bounded.standings" s_Bounded_standings (ma K (ga K "Bounded") "standings") 9 (m_Bounded_standings) := fun cdv A outer s H E fx hcd hr =>
  (gss_one (gs_ret (ge_callA (ok_row_copy T) (hr.mono (by decide)) T.g_row_copy T.k_row_copy pas (gk_v (gv_fld (c := 43) rfl T.c_Bounded T.n_Bounded_own_standings (gp_var 0)) gk_nil) gkw_nil)))
theorem ok_Bounded_standings (T : Tyy K mg w base) : FnA P w (gmL P w mg base K).K mg base 10 (ma K (ga K "Bounded") "standings") 1 [] (spG (gmL P w mg base K) 1 fn_Bounded_standings) := by
  unfold fn_Bounded_standings
  rw [fe_Bounded_standings]
  obtain ⟨fd, F⟩ := T.f_Bounded_standings
  exact fnA_all (Γ := gmL P w mg base K) (gfunD (Γ := gmL P w mg base K) F sc_Bounded_standings (gs_Bounded_standings T)) (F.bindsN fun _ _ _ _ _ _ us hl => match us, hl with | [_], _ => rfl) rfl
theorem gs_Bounded_events (T : Tyy K mg w base) : GSD P w mg base K N_Bounded_events "Bounded.events" s_Bounded_events (ma K (ga K "Bounded") "events") 9 (m_Bounded_events) := fun cdv A outer s H E fx hcd hr =>
  (gss_one (gs_ret (ge_callA (ok_row_copy T) (hr.mono (by decide)) T.g_row_copy T.k_row_copy pas (gk_v (gv_fld (c := 43) rfl T.c_Bounded T.n_Bounded_own_events (gp_var 0)) gk_nil) gkw_nil)))
theorem ok_Bounded_events (T : Tyy K mg w base) : FnA P w (gmL P w mg base K).K mg base 10 (ma K (ga K "Bounded") "events") 1 [] (spG (gmL P w mg base K) 1 fn_Bounded_events) := by
  unfold fn_Bounded_events
  rw [fe_Bounded_events]
  obtain ⟨fd, F⟩ := T.f_Bounded_events
  exact fnA_all (Γ := gmL P w mg base K) (gfunD (Γ := gmL P w mg base K) F sc_Bounded_events (gs_Bounded_events T)) (F.bindsN fun _ _ _ _ _ _ us hl => match us, hl with | [_], _ => rfl) rfl
theorem gs_Harmed_events (T : Tyy K mg w base) : GSD P w mg base K N_Harmed_events "Harmed.events" s_Harmed_events (ma K (ga K "Harmed") "events") 9 (m_Harmed_events) := fun cdv A outer s H E fx hcd hr =>
  (gss_one (gs_ret (ge_callA (ok_row_copy T) (hr.mono (by decide)) T.g_row_copy T.k_row_copy pas (gk_v (gv_fld (c := 42) rfl T.c_Harmed T.n_Harmed_own_events (gp_var 0)) gk_nil) gkw_nil)))
theorem ok_Harmed_events (T : Tyy K mg w base) : FnA P w (gmL P w mg base K).K mg base 10 (ma K (ga K "Harmed") "events") 1 [] (spG (gmL P w mg base K) 1 fn_Harmed_events) := by
  unfold fn_Harmed_events
  rw [fe_Harmed_events]
  obtain ⟨fd, F⟩ := T.f_Harmed_events
  exact fnA_all (Γ := gmL P w mg base K) (gfunD (Γ := gmL P w mg base K) F sc_Harmed_events (gs_Harmed_events T)) (F.bindsN fun _ _ _ _ _ _ us hl => match us, hl with | [_], _ => rfl) rfl
theorem gs_Safe_table (T : Tyy K mg w base) : GSD P w mg base K N_Safe_table "Safe.table" s_Safe_table (ma K (ga K "Safe") "table") 9 (m_Safe_table) := fun cdv A outer s H E fx hcd hr =>
  (gss_one (gs_ret (ge_callA (ok_row_copy T) (hr.mono (by decide)) T.g_row_copy T.k_row_copy pas (gk_v (gv_fld (c := 41) rfl T.c_Safe T.n_Safe_own_table (gp_var 0)) gk_nil) gkw_nil)))
theorem ok_Safe_table (T : Tyy K mg w base) : FnA P w (gmL P w mg base K).K mg base 10 (ma K (ga K "Safe") "table") 1 [] (spG (gmL P w mg base K) 1 fn_Safe_table) := by
  unfold fn_Safe_table
  rw [fe_Safe_table]
  obtain ⟨fd, F⟩ := T.f_Safe_table
  exact fnA_all (Γ := gmL P w mg base K) (gfunD (Γ := gmL P w mg base K) F sc_Safe_table (gs_Safe_table T)) (F.bindsN fun _ _ _ _ _ _ us hl => match us, hl with | [_], _ => rfl) rfl
theorem gs_law_same (T : Tyy K mg w base) {rec : Fn} {j : Nat} (IH : FnA P w (gmL P w mg base K).K mg base (j + 0) (ga K "_law_same") 2 [] (spG (gmL P w mg base K) 2 rec)) : GSD P w mg base K N_law_same "_law_same" s_law_same (ga K "_law_same") (j + 0) (m_law_same rec) := fun cdv A outer s H E fx hcd hr =>
  (gss_cons (gs_if (gt_val (gv_isiT [.lst, .tup] rfl T.z_isinstance (gp_var 1) (pt_cons .lst T.z_list (by decide +kernel) (pt_cons .tup T.z_tuple (by decide +kernel) pt_nil)))) (gss_cons (gs_if (GW.t (gw_or (gt_cp (op_neD hr.units) ok_ne (GV.p (gv_isi .lst rfl T.z_isinstance T.z_list (by decide +kernel) (gp_var 0))) (GV.p (gv_isi .lst rfl T.z_isinstance T.z_list (by decide +kernel) (gp_var 1)))) (gw_or1 (gt_cp (op_neD hr.units) ok_ne (GV.p (gv_isi .tup rfl T.z_isinstance T.z_tuple (by decide +kernel) (gp_var 0))) (GV.p (gv_isi .tup rfl T.z_isinstance T.z_tuple (by decide +kernel) (gp_var 1))))))) (gss_one (gs_ret (GV.e gv_bl))) gss_nil)
    (gss_one (gs_ret (GV.e (gv_and (GE.v (ge_cp (op_eqD hr.units) ok_eq (GE.p (ge_bi call_len ok_len T.z_len (gq_cons (gp_var 0) gq_nil))) (GE.p (ge_bi call_len ok_len T.z_len (gq_cons (gp_var 1) gq_nil))))) (gv_one (GE.v (ge_bi (cr_all rfl) ok_all T.z_all (gq_cons (GE.p (by exact ge_lc (own := [("_law_k", 2)]) rfl sc_law_same.nd (gi_range1 T.z_range (GE.v (ge_bi call_len ok_len T.z_len (gq_cons (gp_var 1) gq_nil)))) (blkOk_by (own := [("_law_k", 2)]) (by rfl)) (fun fx s H C cl fp => (gg_name 2 sc_law_same.nd)) nox_name (fun s H C cl fp => gts_nil) (fun fx s H C cl fp => (GE.v (ge_callA (k := j + 0) (n := 2) (ks := []) (f := (ga K "_law_same")) (fn := rec) (by exact IH) (by exact hr) T.g__law_same T.k_law_same pasN (gk_v (GE.v (ge_ix rfl (gp_var 0) (gp_var 2))) (gk_v (GE.v (ge_ix rfl (gp_var 1) (gp_var 2))) gk_nil)) gkw_nil))))) gq_nil))))))))) gss_nil)
    (gss_cons (gs_if (GW.t (gw_or (gt_cp (op_neD hr.units) ok_ne (GV.p (gv_isi .bl rfl T.z_isinstance T.z_bool (by decide +kernel) (gp_var 1))) (GV.p (gv_isi .bl rfl T.z_isinstance T.z_bool (by decide +kernel) (gp_var 0)))) (gw_or1 (gt_cp (op_neD hr.units) ok_ne (GV.p (gv_isi .int rfl T.z_isinstance T.z_int (by decide +kernel) (gp_var 1))) (GV.p (gv_isi .int rfl T.z_isinstance T.z_int (by decide +kernel) (gp_var 0))))))) (gss_one (gs_ret (GV.e gv_bl))) gss_nil)
    (gss_cons (gs_if (gt_cp (op_neD hr.units) ok_ne (GV.p (gv_isi .str rfl T.z_isinstance T.z_str (by decide +kernel) (gp_var 1))) (GV.p (gv_isi .str rfl T.z_isinstance T.z_str (by decide +kernel) (gp_var 0)))) (gss_one (gs_ret (GV.e gv_bl))) gss_nil)
    (gss_one (gs_ret (ge_if (gt_cp op_isN ok_isN (gp_var 1) (GV.p gv_non)) (ge_cp op_isN ok_isN (gp_var 0) (GV.p gv_non)) (GV.e (gv_and (GE.v (ge_cp op_notN ok_notN (gp_var 0) (GV.p gv_non))) (gv_one (GE.v (ge_cp (op_eqD hr.units) ok_eq (gp_var 0) (gp_var 1))))))))))))
theorem okr_law_same (T : Tyy K mg w base) : ∀ j, FnA P w (gmL P w mg base K).K mg base (j + 0) (ga K "_law_same") 2 [] (spG (gmL P w mg base K) 2 (fnr_law_same j))
  | 0 => fun A outer s H us ws vs zs Q E hr e0 r rz l1 l2 ⟨as, F0, Ar, hn, q⟩ => q.elim
  | j + 1 => by
    obtain ⟨fd, F⟩ := T.f_law_same
    have h := gfunD (Γ := gmL P w mg base K) (P := P) (w := w) (base := base) F sc_law_same (gs_law_same T (okr_law_same T j))
    rw [show j + 1 + 0 = j + 0 + 1 by omega]
    exact fnA_all h (F.bindsN fun _ _ _ _ _ _ us hl => match us, hl with | [_, _], _ => rfl) rfl
theorem ok_law_same (T : Tyy K mg w base) (j : Nat) : FnA P w (gmL P w mg base K).K mg base (j + 0) (ga K "_law_same") 2 [] (spG (gmL P w mg base K) 2 (fn_law_same j)) := by
  rw [fe_law_same]
  exact okr_law_same T j
theorem gs_law (T : Tyy K mg w base) : GSD P w mg base K N_law "law" s_law (ga K "law") 11 (m_law) := fun cdv A outer s H E fx hcd hr =>
  (gss_cons (gs_set 1 sc_law.nd (ge_callA (ok_law_bag T) (hr.mono (by decide)) T.g__law_bag T.k_law_bag pas (gk_v (GE.v (ge_var 0)) gk_nil) gkw_nil))
    (gss_cons (gs_set 2 sc_law.nd (ge_callA (ok_law_take T) (hr.mono (by decide)) T.g__law_take T.k_law_take pas (gk_s 1 (gk_v gv_int gk_nil)) gkw_nil))
    (gss_rowsA 3 4 5 4 (mos := [([0], MO.app (.int 4)), ([0, 1], MO.clr), ([0, 0, 2], MO.app (.int 5)), ([0, 1, 2], MO.app (.int 6))]) "b" rfl rfl sc_law.nd (fun fx => (ge_lst (ga_cons (GE.v (ge_lst (ga_cons gv_str (ga_cons (GE.v (ge_var 2)) ga_nil)))) (ga_cons (gv_tup (ga_cons (GE.v (ge_lst (ga_cons gv_str ga_nil))) (ga_cons gv_non ga_nil))) (ga_cons (gv_tup (ga_cons (gv_tup (ga_cons (GE.v (ge_lst (ga_cons gv_str ga_nil))) ga_nil)) (ga_cons (GE.v (ge_lst (ga_cons (GE.v (ge_lst (ga_cons gv_int ga_nil))) ga_nil))) ga_nil))) ga_nil))))) (fun fx => (ge_lst (ga_cons (GE.v (ge_lst (ga_cons gv_str (ga_cons (GE.v (ge_var 2)) ga_nil)))) (ga_cons (gv_tup (ga_cons (GE.v (ge_lst (ga_cons gv_str ga_nil))) (ga_cons gv_non ga_nil))) (ga_cons (gv_tup (ga_cons (gv_tup (ga_cons (GE.v (ge_lst (ga_cons gv_str ga_nil))) ga_nil)) (ga_cons (GE.v (ge_lst (ga_cons (GE.v (ge_lst (ga_cons gv_int ga_nil))) ga_nil))) ga_nil))) ga_nil))))) (fun fx => (ge_lst (ga_cons (GE.v (ge_makeA (c := 41) T.m_Safe (ok_Safe_init T) (hr.mono (by decide)) T.g_Safe pasN (gk_v (GE.v (ge_var 3)) gk_nil) gkw_nil)) (ga_cons (GE.v (ge_makeA (c := 42) T.m_Harmed (ok_Harmed_init T) (hr.mono (by decide)) T.g_Harmed pasN (gk_v (GE.v (ge_var 3)) gk_nil) gkw_nil)) (ga_cons (GE.v (ge_makeA (c := 43) T.m_Bounded (ok_Bounded_init T) (hr.mono (by decide)) T.g_Bounded pasN (gk_v (GE.v (ge_var 2)) (gk_v (GE.v (ge_var 3)) (gk_v (GE.v (ge_var 3)) (gk_v (GE.v (ge_var 3)) gk_nil)))) gkw_nil)) (ga_cons (GE.v (ge_makeA (c := 44) T.m_Endless (ok_Endless_init T) (hr.mono (by decide)) T.g_Endless pasN (gk_v (GE.v (ge_var 3)) (gk_v (GE.v (ge_var 3)) (gk_v (GE.v (ge_var 3)) gk_nil))) gkw_nil)) (ga_cons (GE.v (ge_makeA (c := 45) T.m_Even (ok_Even_init T) (hr.mono (by decide)) T.g_Even pasN (gk_v (GE.v (ge_var 2)) (gk_v (GE.v (ge_var 3)) gk_nil)) gkw_nil)) (ga_cons (GE.v (ge_makeA (c := 46) T.m_Uneven (ok_Uneven_init T) (hr.mono (by decide)) T.g_Uneven pasN (gk_v (GE.v (ge_var 3)) (gk_v (GE.v (ge_var 3)) gk_nil)) gkw_nil)) (ga_cons (GE.v (ge_makeA (c := 47) T.m_Alike (ok_Alike_init T) (hr.mono (by decide)) T.g_Alike pasN (gk_v (GE.v (ge_var 3)) gk_nil) gkw_nil)) (ga_cons (GE.v (ge_makeA (c := 48) T.m_Unlike (ok_Unlike_init T) (hr.mono (by decide)) T.g_Unlike pasN (gk_v (GE.v (ge_var 3)) gk_nil) gkw_nil)) (ga_cons (GE.v (ge_makeA (c := 49) T.m_Least (ok_Least_init T) (hr.mono (by decide)) T.g_Least pasN (gk_v (gv_tup (ga_cons gv_int (ga_cons gv_int ga_nil))) (gk_v (GE.v (ge_var 3)) gk_nil)) gkw_nil)) ga_nil))))))))))) (.cons (ps_app (pp_ix pp_var) pe_int) (.cons (ps_clr (pp_ix (pp_ix pp_var))) (.cons (ps_app (pp_ix (pp_ix (pp_ix pp_var))) pe_int) (.cons (ps_app (pp_ix (pp_ix (pp_ix pp_var))) pe_int) .nil))))
    (gss_cons (gs_for own rfl (gi_range1 T.z_range gv_int) (gg_name 6 sc_law.nd) nox_name (gss_told 7 8 (mos := [([0], MO.app (.int 7)), ([0, 1], MO.app (.int 8)), ([0, 0, 2], MO.clr), ([0, 1, 2], MO.app (.int 9)), ([], MO.app .non)]) "c" rfl own rfl sc_law.nd (fun fx => (ge_lst (ga_cons (GE.v (ge_methA0 (c := 41) (ok_Safe_table T) (hr.mono (by decide)) T.c_Safe T.h_Safe_table pasN (GE.p (ge_ix rfl (gp_var 5) (GV.p gv_int))) gkw_nil)) (ga_cons (GE.v (ge_methA0 (c := 42) (ok_Harmed_events T) (hr.mono (by decide)) T.c_Harmed T.h_Harmed_events pasN (GE.p (ge_ix rfl (gp_var 5) (GV.p gv_int))) gkw_nil)) (ga_cons (GE.v (ge_methA0 (c := 43) (ok_Bounded_events T) (hr.mono (by decide)) T.c_Bounded T.h_Bounded_events pasN (GE.p (ge_ix rfl (gp_var 5) (GV.p gv_int))) gkw_nil)) (ga_cons (GE.v (ge_methA0 (c := 43) (ok_Bounded_standings T) (hr.mono (by decide)) T.c_Bounded T.h_Bounded_standings pasN (GE.p (ge_ix rfl (gp_var 5) (GV.p gv_int))) gkw_nil)) (ga_cons (GE.v (ge_methA0 (c := 43) (ok_Bounded_heights T) (hr.mono (by decide)) T.c_Bounded T.h_Bounded_heights pasN (GE.p (ge_ix rfl (gp_var 5) (GV.p gv_int))) gkw_nil)) (ga_cons (GE.v (ge_methA0 (c := 44) (ok_Endless_lead T) (hr.mono (by decide)) T.c_Endless T.h_Endless_lead pasN (GE.p (ge_ix rfl (gp_var 5) (GV.p gv_int))) gkw_nil)) (ga_cons (GE.v (ge_methA0 (c := 44) (ok_Endless_ring T) (hr.mono (by decide)) T.c_Endless T.h_Endless_ring pasN (GE.p (ge_ix rfl (gp_var 5) (GV.p gv_int))) gkw_nil)) (ga_cons (GE.v (ge_methA0 (c := 44) (ok_Endless_tail T) (hr.mono (by decide)) T.c_Endless T.h_Endless_tail pasN (GE.p (ge_ix rfl (gp_var 5) (GV.p gv_int))) gkw_nil)) (ga_cons (GE.v (ge_methA0 (c := 45) (ok_Even_events T) (hr.mono (by decide)) T.c_Even T.h_Even_events pasN (GE.p (ge_ix rfl (gp_var 5) (GV.p gv_int))) gkw_nil)) (ga_cons (GE.v (ge_methA0 (c := 46) (ok_Uneven_lead T) (hr.mono (by decide)) T.c_Uneven T.h_Uneven_lead pasN (GE.p (ge_ix rfl (gp_var 5) (GV.p gv_int))) gkw_nil)) (ga_cons (GE.v (ge_methA0 (c := 46) (ok_Uneven_ring T) (hr.mono (by decide)) T.c_Uneven T.h_Uneven_ring pasN (GE.p (ge_ix rfl (gp_var 5) (GV.p gv_int))) gkw_nil)) (ga_cons (GE.v (ge_methA0 (c := 47) (ok_Alike_pairs T) (hr.mono (by decide)) T.c_Alike T.h_Alike_pairs pasN (GE.p (ge_ix rfl (gp_var 5) (GV.p gv_int))) gkw_nil)) (ga_cons (GE.v (ge_methA0 (c := 48) (ok_Unlike_heard T) (hr.mono (by decide)) T.c_Unlike T.h_Unlike_heard pasN (GE.p (ge_ix rfl (gp_var 5) (GV.p gv_int))) gkw_nil)) (ga_cons (GE.v (ge_methA0 (c := 49) (ok_Least_foes T) (hr.mono (by decide)) T.c_Least T.h_Least_foes pasN (GE.p (ge_ix rfl (gp_var 5) (GV.p gv_int))) gkw_nil)) ga_nil)))))))))))))))) (fun fx => (gt_not (gt_val (GE.v (ge_callA (ok_law_same T 8) (hr.mono (by decide)) T.g__law_same T.k_law_same pasN (gk_v (GE.v (ge_var 7)) (gk_v (GE.v (ge_op op_mulK ok_mul (GE.p (ge_lst (ga_cons (GE.v (ge_var 4)) ga_nil))) (GV.p gv_int))) gk_nil)) gkw_nil))))) (.cons (ps_app (pp_ix pp_var) pe_int) (.cons (ps_app (pp_ix (pp_ix pp_var)) pe_int) (.cons (ps_clr (pp_ix (pp_ix (pp_ix pp_var)))) (.cons (ps_app (pp_ix (pp_ix (pp_ix pp_var))) pe_int) (.cons (ps_app pp_var pe_non) .nil)))))
    gss_nil))
    (gss_one (gs_ret (GV.e gv_bl)))))))
end
theorem facts {P : Program} {w : World} {K : PySem.W.Frag} {h : Heap} {mg : Str → Option Value} {f : Addr} (X : K.In h) (G : h.Ns mainGlobals mg) (hfa : mg ("law" : Str) = some (.ref f)) (c : SaysL fa fn ex ts tfs w h K)
    (main : ∀ ns : List Int, ns.length ≤ 63 → ∃ as', fn_law_0 [.val (.scr (ns.map .int))] = .ok (.val (.bl true)) as') :
    ∃ (fd : FuncData) (cs : List (Addr × Addr)) (sp : Sp), (∀ p ∈ cs, h.get? p.2 = some { cls := .none, data := .fields #[] }) ∧ (∀ p ∈ cs, K.lookup p.2 = none) ∧ (∀ p ∈ cs, PySem.W.CodeHd h p.1 p.2) ∧ (∀ (s : Shared) (u : Value), BindsTo s fd ⟨[u], []⟩ [("_law_script", u)]) ∧
      (∀ (H : Hp) (a : Addr) (ns : List Int), ns.length ≤ 63 → (∀ p ∈ cs, H p.2 = some (.tbl #[])) → SqL K H a (ns.map V.int) → sp [.ref a] H (fun v _ => v = .bl true) fun _ _ _ => False) ∧
      ∀ base : Heap, K.In base → base.Ns mainGlobals mg → (∀ p ∈ cs, LamX.TabB base mg p.1 p.2) → FnOk P w K mg base (CXg P w) 12 f fd ["_law_script"] sp := by
  have T := tx_of X G c.s
  obtain ⟨fd, F⟩ := T.f_law
  have e := hfa.symm.trans T.g_law
  cases e
  rw [fe_law] at main
  exact law_end (fn := defFn 9 m_law) (fun base => gmL P w mg base K) X c (fun _ => rfl) (fun base p hp => by
    obtain ⟨i, hi, e⟩ := List.mem_iff_getElem.mp hp
    have : (gm0 K).T.map (·.1) = (tfs K).map (tabA K) := rfl
    have h2 : p.1 ∈ (tfs K).map (tabA K) := by rw [← this]; exact List.mem_map.mpr ⟨p, hp, rfl⟩
    obtain ⟨g, hg, e⟩ := List.mem_map.mp h2
    exact ⟨g, hg, e.symm⟩) (fun s v => FunD.bindsA (ps := ["_law_script"]) F (fun _ _ _ _ _ _ us hl => match us, hl with | [_], _ => rfl) s [v] rfl) main
    fun base hTB => gfunD (Γ := gmL P w mg base K) F sc_law (gs_law { toTx := T, tb := hTB, tc := c.cd, tn := c.nd })
end Lw
namespace Lw
open PySem G
local macro_rules
  | `(tactic| walk_at "d") => `(tactic| first
    | with_reducible assumption
    | ((with_reducible show NotNat _); (fail_if_success (with_reducible show NotNat (Nat.cast _))); exact notNat)
    | ((show List.length _ = _); with_unfolding_all rfl)
    | ((show List.contains (_ : List Str) _ = false); decide +kernel)
    | ((show List.length _ ≤ sizeLine); refine size_ok ?_; (try simp only [List.length_cons, List.length_nil, List.length_map, List.length_append, List.length_range, List.length_take, List.length_drop, List.length_replicate, List.length_set]); omega)
    | ((show List.length _ < sizeLine); refine size_lt ?_; (try simp only [List.length_cons, List.length_nil, List.length_map, List.length_append, List.length_range, List.length_take, List.length_drop, List.length_replicate, List.length_set]); omega)
    | ((show _ + _ ≤ sizeLine); refine size_add ?_; (try simp only [List.length_cons, List.length_nil, List.length_map, List.length_append, List.length_range, List.length_take, List.length_drop, List.length_replicate, List.length_set]); omega)
    | ((show ¬ ((_ : Str) = _)); decide +kernel)
    | ((show PyData.strOk _ = true); decide +kernel)
    | omega
    | (simp only [List.length_cons, List.length_nil, List.length_map, List.length_append, List.length_range, List.length_take, List.length_drop]; omega))
local macro_rules
  | `(tactic| simp? only [$xs,*]) => `(tactic| simp (disch := walk_at "d") only [$xs,*, ↓ixl_mapN, ↓ixt_mapN, ↓ixl_map0, ↓ixl_map1, ↓ixl_map2, ↓ixl_map3, ↓ixl_map4, ↓ixt_map0, ↓ixt_map1, ↓ixt_map2, ↓ixt_map3, ↓ixt_map4, ↓W_gSeq, ↓W_gSet, ↓W_gOp, ↓W_pD, ↓W_toV, ↓W_gD, ↓W_gB, ↓W_gNot, ↓V_gAnd, ↓V_gOr, ↓V_gIf, ↓V_gIfS, ↓V_gAndV, ↓V_gOrV, ↓W_gNotV, ↓W_gNil, ↓W_gCons, ↓W_qNil, ↓W_qCons, ↓W_kNil, ↓W_kV, ↓W_bind, ↓W_lift, ↓W_gBi, ↓W_gExpr, ↓W_gRet, ↓W_gAsg, ↓V_pure, ↓V_bad, ↓W_gPartN, ↓W_gPartS, ↓W_gSlice, ↓WL_slR, ↓slL_hi, ↓slT_hi, ↓slL_lo, ↓slT_lo, ↓slL_lh, ↓slT_lh, ↓V_gVar, ↓gVarK_v, ↓gVarK_o, ↓V_pS, ↓pSK_v, ↓pSK_o, ↓V_giveS, ↓giveK_v, ↓giveK_l, ↓giveK_i, ↓giveK_d, ↓V_giveFD, ↓W_giveD, ↓W_giveFL, ↓W_giveFI, ↓W_giveRV, ↓W_giveRL, ↓W_giveRI, ↓V_putD, ↓V_putF, ↓V_putS, ↓V_bName, ↓V_drfS, ↓drfK_v, ↓drfK_l, ↓drfK_i, ↓drfK_d, ↓WL_drfd, ↓WL_drfs0, ↓WL_drfsC, ↓V_gTup, ↓V_gLst, ↓V_gPar, ↓WPs_n, ↓WPs_c, ↓anyK_n, ↓anyK_c, ↓V_gIsi, ↓ty_non, ↓ty_bl, ↓ty_int, ↓ty_str, ↓ty_tup, ↓ty_lst, ↓lentK_o, ↓lent_n, ↓lent_v, ↓lent_o, ↓retK_o, ↓ret_d, ↓ret_f, ↓ret_s, ↓V_def, ↓WZ_v, ↓WZ_o, ↓endK_nx, ↓endK_rt, ↓kSK_v, ↓kSK_o, ↓asK_v, ↓asK_o, ↓WA_n, ↓WA_v, ↓WA_s, ↓WA_pd, ↓WA_ps, ↓WA_an, ↓WA_av, ↓WA_as, ↓WA_apd, ↓WA_aps, ↓WPB_n, ↓WPB_v, ↓WPB_sv, ↓WPB_pd, ↓WPB_psv, ↓WPB_an, ↓WPB_av, ↓WPB_asv, ↓WPB_apd, ↓WPB_apsv, ↓KRv_v, ↓KRv_o, ↓V_callK, ↓WD_n, ↓WD_v, ↓WD_s, ↓WD_pd, ↓WD_ps, ↓WD_ac, ↓WD_an, ↓WDn_n, ↓WDn_v, ↓WDn_s, ↓WDn_pd, ↓WDn_ps, ↓WDn_ac, ↓WDn_an, ↓isInsK_i, ↓V_callN, ↓W_gCallA, ↓V_kS, ↓ownLK_o, ↓methK_o, ↓V_gMeth, ↓lm_append, ↓lm_insert, ↓lm_clear, ↓lm_reverse, ↓lm_extend, ↓itemK_o, ↓V_bItem, ↓V_gLc, ↓WK_n, ↓bkV_v, ↓bkV_o, ↓bkV_n, ↓WW_n, ↓WW_c, ↓flK_nx, ↓flK_ct, ↓flK_bk, ↓flK_rt, ↓V_gFor, ↓V_bNil, ↓V_bCons, ↓V_bTup, ↓V_gRange1, ↓V_gRange2, ↓WC_inR, ↓asI_i, ↓rangeD_nat, ↓seq_l, ↓seq_t, ↓W_gSeqI, ↓W_gEnum, ↓fldK_i, ↓V_gFld, ↓fld_y, ↓fld_n, ↓WN_n, ↓WN_y, ↓WN_o, ↓setFK_o, ↓V_gSetF, ↓madeK_o, ↓nonK_n, ↓V_gMethA, ↓insK_i, ↓V_gProp, ↓mkK_o, ↓V_gTupRg, ↓WC_rgS, ↓bK_b, ↓V_gChain, ↓V_gStar, ↓V_gDc, ↓V_gLc2, ↓V_gRm, ↓V_gParO, ↓WAs_n, ↓WAs_v, ↓WAs_o, ↓W_oNil, ↓W_oV, ↓W_oO, ↓avK_d, ↓avK_f, ↓W_gZip, ↓zipLT_lt, ↓W_gInC, ↓inCK_str, ↓W_gGetC, ↓getCK_str, ↓isL_l, ↓isS_s, ↓rmIndex_l, ↓WB_t, ↓WB_f, ↓WB_n, ↓WB_and, ↓WB_or, ↓WB_dt, ↓WB_df, ↓eq_bl, ↓ne_bl, ↓WC_ok, ↓W_sqnx, ↓W_sqrt, ↓W_sqbk, ↓W_sqct, ↓WL_some, ↓WL_asB, ↓WL_map, ↓WL_eqI, ↓WL_neI, ↓WL_addI, ↓WL_subI, ↓WL_ltI, ↓WL_leI, ↓WL_gtI, ↓WL_geI, ↓WL_len, ↓WL_lenT, ↓WL_int, ↓WL_list, ↓WL_listT, ↓WL_tuple, ↓WL_tupleT, ↓all_m, ↓any_m, ↓maxL_m, ↓minL_m, ↓mul_rep2, ↓mod_ok, ↓fdiv_ok, ↓mul_ok, ↓pow_18, ↓pow_3, ↓oMin_i, ↓oMax_i, ↓oAdd_l, ↓ixl_mapI, ↓ixt_mapI, ↓V_gCb, ↓cbK_c, ↓V_cloF, ↓WV_n, ↓WV_c, ↓WR_0, ↓WR_1, ↓WR_2, ↓WR_3, ↓V_lV, ↓V_lS, ↓lSK_v, ↓lSK_o, ↓lSK_c, ↓V_lC, ↓WCap_n, ↓WCap_c, ↓valK_v, ↓V_gCallL, ↓V_gMethL, ↓insB_n, ↓insB_c, ↓delB_n, ↓delB_c, ↓asK_c, ↓kSK_c, ↓lent_c, ↓WZ_c, ↓WPB_sc, ↓WPB_asc, ↓isN_n, ↓isN_b, ↓isN_i, ↓isN_s, ↓isN_t, ↓isN_l, ↓notN_n, ↓notN_b, ↓notN_i, ↓notN_s, ↓notN_t, ↓notN_l, ↓WS_0, ↓WP_0, ↓WPB_so_0, ↓WPB_pso_0, ↓WPB_aso_0, ↓WPB_apso_0, ↓WK_0, ↓WS_1, ↓WP_1, ↓WPB_so_1, ↓WPB_pso_1, ↓WPB_aso_1, ↓WPB_apso_1, ↓WK_1, ↓WS_2, ↓WP_2, ↓WPB_so_2, ↓WPB_pso_2, ↓WPB_aso_2, ↓WPB_apso_2, ↓WK_2, ↓WS_3, ↓WP_3, ↓WPB_so_3, ↓WPB_pso_3, ↓WPB_aso_3, ↓WPB_apso_3, ↓WK_3, ↓WS_4, ↓WP_4, ↓WPB_so_4, ↓WPB_pso_4, ↓WPB_aso_4, ↓WPB_apso_4, ↓WK_4, ↓WS_5, ↓WP_5, ↓WPB_so_5, ↓WPB_pso_5, ↓WPB_aso_5, ↓WPB_apso_5, ↓WK_5, ↓WS_6, ↓WP_6, ↓WPB_so_6, ↓WPB_pso_6, ↓WPB_aso_6, ↓WPB_apso_6, ↓WK_6, ↓WS_7, ↓WP_7, ↓WPB_so_7, ↓WPB_pso_7, ↓WPB_aso_7, ↓WPB_apso_7, ↓WK_7, ↓WS_8, ↓WP_8, ↓WPB_so_8, ↓WPB_pso_8, ↓WPB_aso_8, ↓WPB_apso_8, ↓WK_8, ↓WS_9, ↓WP_9, ↓WPB_so_9, ↓WPB_pso_9, ↓WPB_aso_9, ↓WPB_apso_9, ↓WK_9, ↓WS_10, ↓WP_10, ↓WPB_so_10, ↓WPB_pso_10, ↓WPB_aso_10, ↓WPB_apso_10, ↓WK_10, ↓WS_11, ↓WP_11, ↓WPB_so_11, ↓WPB_pso_11, ↓WPB_aso_11, ↓WPB_apso_11, ↓WK_11, ↓WS_12, ↓WP_12, ↓WPB_so_12, ↓WPB_pso_12, ↓WPB_aso_12, ↓WPB_apso_12, ↓WK_12, ↓WS_13, ↓WP_13, ↓WPB_so_13, ↓WPB_pso_13, ↓WPB_aso_13, ↓WPB_apso_13, ↓WK_13, ↓WS_14, ↓WP_14, ↓WPB_so_14, ↓WPB_pso_14, ↓WPB_aso_14, ↓WPB_apso_14, ↓WK_14, ↓WS_15, ↓WP_15, ↓WPB_so_15, ↓WPB_pso_15, ↓WPB_aso_15, ↓WPB_apso_15, ↓WK_15, ↓WS_16, ↓WP_16, ↓WPB_so_16, ↓WPB_pso_16, ↓WPB_aso_16, ↓WPB_apso_16, ↓WK_16, ↓WS_17, ↓WP_17, ↓WPB_so_17, ↓WPB_pso_17, ↓WPB_aso_17, ↓WPB_apso_17, ↓WK_17, ↓WS_18, ↓WP_18, ↓WPB_so_18, ↓WPB_pso_18, ↓WPB_aso_18, ↓WPB_apso_18, ↓WK_18, ↓WS_19, ↓WP_19, ↓WPB_so_19, ↓WPB_pso_19, ↓WPB_aso_19, ↓WPB_apso_19, ↓WK_19, ↓WS_20, ↓WP_20, ↓WPB_so_20, ↓WPB_pso_20, ↓WPB_aso_20, ↓WPB_apso_20, ↓WK_20, ↓WS_21, ↓WP_21, ↓WPB_so_21, ↓WPB_pso_21, ↓WPB_aso_21, ↓WPB_apso_21, ↓WK_21, ↓WS_22, ↓WP_22, ↓WPB_so_22, ↓WPB_pso_22, ↓WPB_aso_22, ↓WPB_apso_22, ↓WK_22, ↓WS_23, ↓WP_23, ↓WPB_so_23, ↓WPB_pso_23, ↓WPB_aso_23, ↓WPB_apso_23, ↓WK_23, ↓WS_24, ↓WP_24, ↓WPB_so_24, ↓WPB_pso_24, ↓WPB_aso_24, ↓WPB_apso_24, ↓WK_24, ↓WS_25, ↓WP_25, ↓WPB_so_25, ↓WPB_pso_25, ↓WPB_aso_25, ↓WPB_apso_25, ↓WK_25, ↓WS_26, ↓WP_26, ↓WPB_so_26, ↓WPB_pso_26, ↓WPB_aso_26, ↓WPB_apso_26, ↓WK_26, ↓WS_27, ↓WP_27, ↓WPB_so_27, ↓WPB_pso_27, ↓WPB_aso_27, ↓WPB_apso_27, ↓WK_27, ↓WS_28, ↓WP_28, ↓WPB_so_28, ↓WPB_pso_28, ↓WPB_aso_28, ↓WPB_apso_28, ↓WK_28, ↓WS_29, ↓WP_29, ↓WPB_so_29, ↓WPB_pso_29, ↓WPB_aso_29, ↓WPB_apso_29, ↓WK_29, ↓WZ_0, ↓WZ_1, ↓WZ_2, ↓WZ_3, ↓WZ_4, ↓WZ_5, ↓WZ_6, ↓WZ_7, ↓WZ_8, ↓WZ_9, ↓WZ_10, ↓WZ_11, ↓WZ_12, ↓WZ_13, ↓WZ_14, ↓WZ_15, ↓WZ_16, ↓WZ_17, ↓WZ_18, ↓WZ_19, ↓WZ_20, ↓WZ_21, ↓WZ_22, ↓WZ_23, ↓WZ_24, ↓WZ_25, ↓WZ_26, ↓WZ_27, ↓WZ_28, ↓WZ_29, ↓WZ_30, ↓ixl_0, ↓ixt_0, ↓WI_0, ↓ixl_1, ↓ixt_1, ↓WI_1, ↓ixl_2, ↓ixt_2, ↓WI_2, ↓ixl_3, ↓ixt_3, ↓WI_3, ↓ixl_4, ↓ixt_4, ↓WI_4, ↓ixl_5, ↓ixt_5, ↓WI_5, ↓ixl_6, ↓ixt_6, ↓WI_6, ↓ixl_7, ↓ixt_7, ↓WI_7, ↓WTy_non_non, ↓WTy_non_bl, ↓WTy_non_int, ↓WTy_non_str, ↓WTy_non_tup, ↓WTy_non_lst, ↓WTy_non_dic, ↓WTy_bl_non, ↓WTy_bl_bl, ↓WTy_bl_int, ↓WTy_bl_str, ↓WTy_bl_tup, ↓WTy_bl_lst, ↓WTy_bl_dic, ↓WTy_int_non, ↓WTy_int_bl, ↓WTy_int_int, ↓WTy_int_str, ↓WTy_int_tup, ↓WTy_int_lst, ↓WTy_int_dic, ↓WTy_str_non, ↓WTy_str_bl, ↓WTy_str_int, ↓WTy_str_str, ↓WTy_str_tup, ↓WTy_str_lst, ↓WTy_str_dic, ↓WTy_tup_non, ↓WTy_tup_bl, ↓WTy_tup_int, ↓WTy_tup_str, ↓WTy_tup_tup, ↓WTy_tup_lst, ↓WTy_tup_dic, ↓WTy_lst_non, ↓WTy_lst_bl, ↓WTy_lst_int, ↓WTy_lst_str, ↓WTy_lst_tup, ↓WTy_lst_lst, ↓WTy_lst_dic, ↓WTy_dic_non, ↓WTy_dic_bl, ↓WTy_dic_int, ↓WTy_dic_str, ↓WTy_dic_tup, ↓WTy_dic_lst, ↓WTy_dic_dic, ↓eq_str, ↓ne_str, ↓ty_pd, ↓eq_pd, ↓ne_pd, ↓eql_pd, ↓eqn_pd, ↓nel_pd, ↓nen_pd, ↓inlst_pd, ↓nilst_pd, ↓intup_pd, ↓nitup_pd, ↓idx_pd_number, ↓eq_pd_number, ↓ne_pd_number, ↓inlst_pd_number, ↓nilst_pd_number, ↓intup_pd_number, ↓nitup_pd_number, ↓idx_pd_mark, ↓eq_pd_mark, ↓ne_pd_mark, ↓inlst_pd_mark, ↓nilst_pd_mark, ↓intup_pd_mark, ↓nitup_pd_mark, ↓idx_pd_inverse, ↓eq_pd_inverse, ↓ne_pd_inverse, ↓inlst_pd_inverse, ↓nilst_pd_inverse, ↓intup_pd_inverse, ↓nitup_pd_inverse, ↓idx_pd_check, ↓eq_pd_check, ↓ne_pd_check, ↓inlst_pd_check, ↓nilst_pd_check, ↓intup_pd_check, ↓nitup_pd_check, ↓ty_pld, ↓eq_pld, ↓ne_pld, ↓eql_pld, ↓eqn_pld, ↓nel_pld, ↓nen_pld, ↓inlst_pld, ↓nilst_pld, ↓intup_pld, ↓nitup_pld, ↓idx_pld_next, ↓eq_pld_next, ↓ne_pld_next, ↓inlst_pld_next, ↓nilst_pld_next, ↓intup_pld_next, ↓nitup_pld_next, ↓idx_pld_spare, ↓eq_pld_spare, ↓ne_pld_spare, ↓inlst_pld_spare, ↓nilst_pld_spare, ↓intup_pld_spare, ↓nitup_pld_spare, ↓idx_pld_oldest, ↓eq_pld_oldest, ↓ne_pld_oldest, ↓inlst_pld_oldest, ↓nilst_pld_oldest, ↓intup_pld_oldest, ↓nitup_pld_oldest, ↓ty_rkd, ↓eq_rkd, ↓ne_rkd, ↓eql_rkd, ↓eqn_rkd, ↓nel_rkd, ↓nen_rkd, ↓inlst_rkd, ↓nilst_rkd, ↓intup_rkd, ↓nitup_rkd, ↓idx_rkd_step, ↓eq_rkd_step, ↓ne_rkd_step, ↓inlst_rkd_step, ↓nilst_rkd_step, ↓intup_rkd_step, ↓nitup_rkd_step, ↓idx_rkd_only, ↓eq_rkd_only, ↓ne_rkd_only, ↓inlst_rkd_only, ↓nilst_rkd_only, ↓intup_rkd_only, ↓nitup_rkd_only, ↓idx_rkd_first, ↓eq_rkd_first, ↓ne_rkd_first, ↓inlst_rkd_first, ↓nilst_rkd_first, ↓intup_rkd_first, ↓nitup_rkd_first, ↓idx_rkd_window, ↓eq_rkd_window, ↓ne_rkd_window, ↓inlst_rkd_window, ↓nilst_rkd_window, ↓intup_rkd_window, ↓nitup_rkd_window, ↓ty_rd, ↓in_rd, ↓ix0_rd, ↓len_rd, ↓nil_rd, ↓in_plain, ↓ni_places, ↓in_marked, ↓eqn_nat, ↓nen_nat, ↓inl_nat, ↓int_nat, ↓nil_nat, ↓eql_on, ↓nel_on, ↓insK_sd, ↓isInsK_sd, ↓fld_sd_own_size, ↓fld_sd_own_ring, ↓fld_sd_own_layout, ↓fld_sd_own_rules, ↓fld_sd_own_covers, ↓fld_sd_own_place, ↓fld_sd_own_noisy, ↓isN_on, ↓notN_on, onD_s, onD_n, WI_any, ixl_any, ixt_any, List.length_map, List.length_cons, List.length_nil, List.length_append, List.length_range, List.length_zipIdx, List.length_take, List.length_drop, List.length_reverse, Int.toNat_natCast, eq_self, decide_true, decide_false, Bool.not_true, Bool.not_false, ← List.map_take, ← List.map_drop, ↓Nat.reduceAdd, Int.reduceToNat])
local macro_rules
  | `(tactic| simp?! only [$xs,*]) => `(tactic| simp (disch := walk_at "d") only [$xs,*, ↓ixl_mapN, ↓ixt_mapN, ↓ixl_map0, ↓ixl_map1, ↓ixl_map2, ↓ixl_map3, ↓ixl_map4, ↓ixt_map0, ↓ixt_map1, ↓ixt_map2, ↓ixt_map3, ↓ixt_map4, ↓W_gSeq, ↓W_gSet, ↓W_gOp, ↓W_pD, ↓W_toV, ↓W_gD, ↓W_gB, ↓W_gNot, ↓V_gAnd, ↓V_gOr, ↓W_gNotV, ↓W_gNil, ↓W_gCons, ↓W_qNil, ↓W_qCons, ↓W_kNil, ↓W_kV, ↓W_bind, ↓W_lift, ↓W_gBi, ↓W_gExpr, ↓W_gRet, ↓W_gAsg, ↓V_pure, ↓V_bad, ↓W_gPartN, ↓W_gPartS, ↓W_gSlice, ↓WL_slR, ↓slL_hi, ↓slT_hi, ↓slL_lo, ↓slT_lo, ↓slL_lh, ↓slT_lh, ↓V_gVar, ↓gVarK_v, ↓gVarK_o, ↓V_pS, ↓pSK_v, ↓pSK_o, ↓V_giveS, ↓giveK_v, ↓giveK_l, ↓giveK_i, ↓giveK_d, ↓V_giveFD, ↓W_giveD, ↓W_giveFL, ↓W_giveFI, ↓W_giveRV, ↓W_giveRL, ↓W_giveRI, ↓V_putD, ↓V_putF, ↓V_putS, ↓V_bName, ↓V_drfS, ↓drfK_v, ↓drfK_l, ↓drfK_i, ↓drfK_d, ↓WL_drfd, ↓WL_drfs0, ↓WL_drfsC, ↓V_gTup, ↓V_gLst, ↓V_gPar, ↓WPs_n, ↓WPs_c, ↓anyK_n, ↓anyK_c, ↓V_gIsi, ↓ty_non, ↓ty_bl, ↓ty_int, ↓ty_str, ↓ty_tup, ↓ty_lst, ↓lentK_o, ↓lent_n, ↓lent_v, ↓lent_o, ↓retK_o, ↓ret_d, ↓ret_f, ↓ret_s, ↓V_def, ↓WZ_v, ↓WZ_o, ↓endK_nx, ↓endK_rt, ↓kSK_v, ↓kSK_o, ↓asK_v, ↓asK_o, ↓WA_n, ↓WA_v, ↓WA_s, ↓WA_pd, ↓WA_ps, ↓WA_an, ↓WA_av, ↓WA_as, ↓WA_apd, ↓WA_aps, ↓WPB_n, ↓WPB_v, ↓WPB_sv, ↓WPB_pd, ↓WPB_psv, ↓WPB_an, ↓WPB_av, ↓WPB_asv, ↓WPB_apd, ↓WPB_apsv, ↓KRv_v, ↓KRv_o, ↓V_callK, ↓WD_n, ↓WD_v, ↓WD_s, ↓WD_pd, ↓WD_ps, ↓WD_ac, ↓WD_an, ↓WDn_n, ↓WDn_v, ↓WDn_s, ↓WDn_pd, ↓WDn_ps, ↓WDn_ac, ↓WDn_an, ↓isInsK_i, ↓V_callN, ↓W_gCallA, ↓V_kS, ↓ownLK_o, ↓methK_o, ↓V_gMeth, ↓lm_append, ↓lm_insert, ↓lm_clear, ↓lm_reverse, ↓lm_extend, ↓itemK_o, ↓V_bItem, ↓V_gLc, ↓WK_n, ↓bkV_v, ↓bkV_o, ↓bkV_n, ↓WW_n, ↓WW_c, ↓flK_nx, ↓flK_ct, ↓flK_bk, ↓flK_rt, ↓V_gFor, ↓V_bNil, ↓V_bCons, ↓V_bTup, ↓V_gRange1, ↓V_gRange2, ↓WC_inR, ↓asI_i, ↓rangeD_nat, ↓seq_l, ↓seq_t, ↓W_gSeqI, ↓W_gEnum, ↓fldK_i, ↓V_gFld, ↓fld_y, ↓fld_n, ↓WN_n, ↓WN_y, ↓WN_o, ↓setFK_o, ↓V_gSetF, ↓madeK_o, ↓nonK_n, ↓V_gMethA, ↓insK_i, ↓V_gProp, ↓mkK_o, ↓V_gTupRg, ↓WC_rgS, ↓bK_b, ↓V_gChain, ↓V_gStar, ↓V_gDc, ↓V_gLc2, ↓V_gRm, ↓V_gParO, ↓WAs_n, ↓WAs_v, ↓WAs_o, ↓W_oNil, ↓W_oV, ↓W_oO, ↓avK_d, ↓avK_f, ↓W_gZip, ↓zipLT_lt, ↓W_gInC, ↓inCK_str, ↓W_gGetC, ↓getCK_str, ↓isL_l, ↓isS_s, ↓rmIndex_l, ↓WB_t, ↓WB_f, ↓WB_n, ↓WB_and, ↓WB_or, ↓WB_dt, ↓WB_df, ↓eq_bl, ↓ne_bl, ↓WC_ok, ↓W_sqnx, ↓W_sqrt, ↓W_sqbk, ↓W_sqct, ↓WL_some, ↓WL_asB, ↓WL_map, ↓WL_eqI, ↓WL_neI, ↓WL_addI, ↓WL_subI, ↓WL_ltI, ↓WL_leI, ↓WL_gtI, ↓WL_geI, ↓WL_len, ↓WL_lenT, ↓WL_int, ↓WL_list, ↓WL_listT, ↓WL_tuple, ↓WL_tupleT, ↓all_m, ↓any_m, ↓maxL_m, ↓minL_m, ↓mul_rep2, ↓mod_ok, ↓fdiv_ok, ↓mul_ok, ↓pow_18, ↓pow_3, ↓oMin_i, ↓oMax_i, ↓oAdd_l, ↓ixl_mapI, ↓ixt_mapI, ↓V_gCb, ↓cbK_c, ↓V_cloF, ↓WV_n, ↓WV_c, ↓WR_0, ↓WR_1, ↓WR_2, ↓WR_3, ↓V_lV, ↓V_lS, ↓lSK_v, ↓lSK_o, ↓lSK_c, ↓V_lC, ↓WCap_n, ↓WCap_c, ↓valK_v, ↓V_gCallL, ↓V_gMethL, ↓insB_n, ↓insB_c, ↓delB_n, ↓delB_c, ↓asK_c, ↓kSK_c, ↓lent_c, ↓WZ_c, ↓WPB_sc, ↓WPB_asc, ↓isN_n, ↓isN_b, ↓isN_i, ↓isN_s, ↓isN_t, ↓isN_l, ↓notN_n, ↓notN_b, ↓notN_i, ↓notN_s, ↓notN_t, ↓notN_l, ↓WS_0, ↓WP_0, ↓WPB_so_0, ↓WPB_pso_0, ↓WPB_aso_0, ↓WPB_apso_0, ↓WK_0, ↓WS_1, ↓WP_1, ↓WPB_so_1, ↓WPB_pso_1, ↓WPB_aso_1, ↓WPB_apso_1, ↓WK_1, ↓WS_2, ↓WP_2, ↓WPB_so_2, ↓WPB_pso_2, ↓WPB_aso_2, ↓WPB_apso_2, ↓WK_2, ↓WS_3, ↓WP_3, ↓WPB_so_3, ↓WPB_pso_3, ↓WPB_aso_3, ↓WPB_apso_3, ↓WK_3, ↓WS_4, ↓WP_4, ↓WPB_so_4, ↓WPB_pso_4, ↓WPB_aso_4, ↓WPB_apso_4, ↓WK_4, ↓WS_5, ↓WP_5, ↓WPB_so_5, ↓WPB_pso_5, ↓WPB_aso_5, ↓WPB_apso_5, ↓WK_5, ↓WS_6, ↓WP_6, ↓WPB_so_6, ↓WPB_pso_6, ↓WPB_aso_6, ↓WPB_apso_6, ↓WK_6, ↓WS_7, ↓WP_7, ↓WPB_so_7, ↓WPB_pso_7, ↓WPB_aso_7, ↓WPB_apso_7, ↓WK_7, ↓WS_8, ↓WP_8, ↓WPB_so_8, ↓WPB_pso_8, ↓WPB_aso_8, ↓WPB_apso_8, ↓WK_8, ↓WS_9, ↓WP_9, ↓WPB_so_9, ↓WPB_pso_9, ↓WPB_aso_9, ↓WPB_apso_9, ↓WK_9, ↓WS_10, ↓WP_10, ↓WPB_so_10, ↓WPB_pso_10, ↓WPB_aso_10, ↓WPB_apso_10, ↓WK_10, ↓WS_11, ↓WP_11, ↓WPB_so_11, ↓WPB_pso_11, ↓WPB_aso_11, ↓WPB_apso_11, ↓WK_11, ↓WS_12, ↓WP_12, ↓WPB_so_12, ↓WPB_pso_12, ↓WPB_aso_12, ↓WPB_apso_12, ↓WK_12, ↓WS_13, ↓WP_13, ↓WPB_so_13, ↓WPB_pso_13, ↓WPB_aso_13, ↓WPB_apso_13, ↓WK_13, ↓WS_14, ↓WP_14, ↓WPB_so_14, ↓WPB_pso_14, ↓WPB_aso_14, ↓WPB_apso_14, ↓WK_14, ↓WS_15, ↓WP_15, ↓WPB_so_15, ↓WPB_pso_15, ↓WPB_aso_15, ↓WPB_apso_15, ↓WK_15, ↓WS_16, ↓WP_16, ↓WPB_so_16, ↓WPB_pso_16, ↓WPB_aso_16, ↓WPB_apso_16, ↓WK_16, ↓WS_17, ↓WP_17, ↓WPB_so_17, ↓WPB_pso_17, ↓WPB_aso_17, ↓WPB_apso_17, ↓WK_17, ↓WS_18, ↓WP_18, ↓WPB_so_18, ↓WPB_pso_18, ↓WPB_aso_18, ↓WPB_apso_18, ↓WK_18, ↓WS_19, ↓WP_19, ↓WPB_so_19, ↓WPB_pso_19, ↓WPB_aso_19, ↓WPB_apso_19, ↓WK_19, ↓WS_20, ↓WP_20, ↓WPB_so_20, ↓WPB_pso_20, ↓WPB_aso_20, ↓WPB_apso_20, ↓WK_20, ↓WS_21, ↓WP_21, ↓WPB_so_21, ↓WPB_pso_21, ↓WPB_aso_21, ↓WPB_apso_21, ↓WK_21, ↓WS_22, ↓WP_22, ↓WPB_so_22, ↓WPB_pso_22, ↓WPB_aso_22, ↓WPB_apso_22, ↓WK_22, ↓WS_23, ↓WP_23, ↓WPB_so_23, ↓WPB_pso_23, ↓WPB_aso_23, ↓WPB_apso_23, ↓WK_23, ↓WS_24, ↓WP_24, ↓WPB_so_24, ↓WPB_pso_24, ↓WPB_aso_24, ↓WPB_apso_24, ↓WK_24, ↓WS_25, ↓WP_25, ↓WPB_so_25, ↓WPB_pso_25, ↓WPB_aso_25, ↓WPB_apso_25, ↓WK_25, ↓WS_26, ↓WP_26, ↓WPB_so_26, ↓WPB_pso_26, ↓WPB_aso_26, ↓WPB_apso_26, ↓WK_26, ↓WS_27, ↓WP_27, ↓WPB_so_27, ↓WPB_pso_27, ↓WPB_aso_27, ↓WPB_apso_27, ↓WK_27, ↓WS_28, ↓WP_28, ↓WPB_so_28, ↓WPB_pso_28, ↓WPB_aso_28, ↓WPB_apso_28, ↓WK_28, ↓WS_29, ↓WP_29, ↓WPB_so_29, ↓WPB_pso_29, ↓WPB_aso_29, ↓WPB_apso_29, ↓WK_29, ↓WZ_0, ↓WZ_1, ↓WZ_2, ↓WZ_3, ↓WZ_4, ↓WZ_5, ↓WZ_6, ↓WZ_7, ↓WZ_8, ↓WZ_9, ↓WZ_10, ↓WZ_11, ↓WZ_12, ↓WZ_13, ↓WZ_14, ↓WZ_15, ↓WZ_16, ↓WZ_17, ↓WZ_18, ↓WZ_19, ↓WZ_20, ↓WZ_21, ↓WZ_22, ↓WZ_23, ↓WZ_24, ↓WZ_25, ↓WZ_26, ↓WZ_27, ↓WZ_28, ↓WZ_29, ↓WZ_30, ↓ixl_0, ↓ixt_0, ↓WI_0, ↓ixl_1, ↓ixt_1, ↓WI_1, ↓ixl_2, ↓ixt_2, ↓WI_2, ↓ixl_3, ↓ixt_3, ↓WI_3, ↓ixl_4, ↓ixt_4, ↓WI_4, ↓ixl_5, ↓ixt_5, ↓WI_5, ↓ixl_6, ↓ixt_6, ↓WI_6, ↓ixl_7, ↓ixt_7, ↓WI_7, ↓WTy_non_non, ↓WTy_non_bl, ↓WTy_non_int, ↓WTy_non_str, ↓WTy_non_tup, ↓WTy_non_lst, ↓WTy_non_dic, ↓WTy_bl_non, ↓WTy_bl_bl, ↓WTy_bl_int, ↓WTy_bl_str, ↓WTy_bl_tup, ↓WTy_bl_lst, ↓WTy_bl_dic, ↓WTy_int_non, ↓WTy_int_bl, ↓WTy_int_int, ↓WTy_int_str, ↓WTy_int_tup, ↓WTy_int_lst, ↓WTy_int_dic, ↓WTy_str_non, ↓WTy_str_bl, ↓WTy_str_int, ↓WTy_str_str, ↓WTy_str_tup, ↓WTy_str_lst, ↓WTy_str_dic, ↓WTy_tup_non, ↓WTy_tup_bl, ↓WTy_tup_int, ↓WTy_tup_str, ↓WTy_tup_tup, ↓WTy_tup_lst, ↓WTy_tup_dic, ↓WTy_lst_non, ↓WTy_lst_bl, ↓WTy_lst_int, ↓WTy_lst_str, ↓WTy_lst_tup, ↓WTy_lst_lst, ↓WTy_lst_dic, ↓WTy_dic_non, ↓WTy_dic_bl, ↓WTy_dic_int, ↓WTy_dic_str, ↓WTy_dic_tup, ↓WTy_dic_lst, ↓WTy_dic_dic, ↓eq_str, ↓ne_str, ↓ty_pd, ↓eq_pd, ↓ne_pd, ↓eql_pd, ↓eqn_pd, ↓nel_pd, ↓nen_pd, ↓inlst_pd, ↓nilst_pd, ↓intup_pd, ↓nitup_pd, ↓idx_pd_number, ↓eq_pd_number, ↓ne_pd_number, ↓inlst_pd_number, ↓nilst_pd_number, ↓intup_pd_number, ↓nitup_pd_number, ↓idx_pd_mark, ↓eq_pd_mark, ↓ne_pd_mark, ↓inlst_pd_mark, ↓nilst_pd_mark, ↓intup_pd_mark, ↓nitup_pd_mark, ↓idx_pd_inverse, ↓eq_pd_inverse, ↓ne_pd_inverse, ↓inlst_pd_inverse, ↓nilst_pd_inverse, ↓intup_pd_inverse, ↓nitup_pd_inverse, ↓idx_pd_check, ↓eq_pd_check, ↓ne_pd_check, ↓inlst_pd_check, ↓nilst_pd_check, ↓intup_pd_check, ↓nitup_pd_check, ↓ty_pld, ↓eq_pld, ↓ne_pld, ↓eql_pld, ↓eqn_pld, ↓nel_pld, ↓nen_pld, ↓inlst_pld, ↓nilst_pld, ↓intup_pld, ↓nitup_pld, ↓idx_pld_next, ↓eq_pld_next, ↓ne_pld_next, ↓inlst_pld_next, ↓nilst_pld_next, ↓intup_pld_next, ↓nitup_pld_next, ↓idx_pld_spare, ↓eq_pld_spare, ↓ne_pld_spare, ↓inlst_pld_spare, ↓nilst_pld_spare, ↓intup_pld_spare, ↓nitup_pld_spare, ↓idx_pld_oldest, ↓eq_pld_oldest, ↓ne_pld_oldest, ↓inlst_pld_oldest, ↓nilst_pld_oldest, ↓intup_pld_oldest, ↓nitup_pld_oldest, ↓ty_rkd, ↓eq_rkd, ↓ne_rkd, ↓eql_rkd, ↓eqn_rkd, ↓nel_rkd, ↓nen_rkd, ↓inlst_rkd, ↓nilst_rkd, ↓intup_rkd, ↓nitup_rkd, ↓idx_rkd_step, ↓eq_rkd_step, ↓ne_rkd_step, ↓inlst_rkd_step, ↓nilst_rkd_step, ↓intup_rkd_step, ↓nitup_rkd_step, ↓idx_rkd_only, ↓eq_rkd_only, ↓ne_rkd_only, ↓inlst_rkd_only, ↓nilst_rkd_only, ↓intup_rkd_only, ↓nitup_rkd_only, ↓idx_rkd_first, ↓eq_rkd_first, ↓ne_rkd_first, ↓inlst_rkd_first, ↓nilst_rkd_first, ↓intup_rkd_first, ↓nitup_rkd_first, ↓idx_rkd_window, ↓eq_rkd_window, ↓ne_rkd_window, ↓inlst_rkd_window, ↓nilst_rkd_window, ↓intup_rkd_window, ↓nitup_rkd_window, ↓ty_rd, ↓in_rd, ↓ix0_rd, ↓len_rd, ↓nil_rd, ↓in_plain, ↓ni_places, ↓in_marked, ↓eqn_nat, ↓nen_nat, ↓inl_nat, ↓int_nat, ↓nil_nat, ↓eql_on, ↓nel_on, ↓insK_sd, ↓isInsK_sd, ↓fld_sd_own_size, ↓fld_sd_own_ring, ↓fld_sd_own_layout, ↓fld_sd_own_rules, ↓fld_sd_own_covers, ↓fld_sd_own_place, ↓fld_sd_own_noisy, ↓isN_on, ↓notN_on, onD_s, onD_n, WI_any, ixl_any, ixt_any, List.length_map, List.length_cons, List.length_nil, List.length_append, List.length_range, List.length_zipIdx, List.length_take, List.length_drop, List.length_reverse, Int.toNat_natCast, eq_self, decide_true, decide_false, Bool.not_true, Bool.not_false, ← List.map_take, ← List.map_drop, ↓Nat.reduceAdd, Int.reduceToNat])
local macro_rules
  | `(tactic| walk_at "br") => `(tactic| ((try walk_at "ws"); (repeat' (with_reducible refine WB_dec (fun _ => ?_) (fun _ => ?_) <;> try walk_at "ws"))))
local macro_rules
  | `(tactic| walk_at "f3") => `(tactic| ((try walk_at "ws"); (repeat' (with_reducible refine And.intro ?_ ?_)) <;> first | trivial | rfl))
local macro_rules
  | `(tactic| walk_at "wv") => `(tactic| ((try walk_at "ws"); first | exact ⟨rfl, rfl⟩ | exact ⟨rfl, trivial⟩ | exact ⟨trivial, rfl⟩ | exact ⟨trivial, trivial⟩))
local macro_rules
  | `(tactic| walk_at "lc") => `(tactic| ((try walk_at "ws"); refine And.intro (by first | trivial | rfl) ?_; first | exact ⟨rfl, rfl⟩ | exact ⟨trivial, rfl⟩ | rfl | (refine WB_mk (fun _ => ?_) (fun _ => ?_) <;> first | exact ⟨rfl, rfl⟩ | exact ⟨trivial, rfl⟩ | rfl)))
local macro_rules
  | `(tactic| walk_at "ws") => `(tactic| simp? only [↓W_gSeq])
local macro_rules
  | `(tactic| walk_at "wa") => `(tactic| simp?! only [↓W_gSeq])
/-- the bag: n its draws so far at most -/
noncomputable def Bag (n : Nat) (ds : List D) : Prop := ∃ (zs : List Int) (p : Int) (v s c : Int), ds = [.lst (zs.map .int), .int p, .int v, .int s, .int c] ∧ 0 ≤ p ∧ 0 ≤ s ∧ s < 2147483629 ∧ 0 ≤ c ∧ c ≤ n
theorem take_spec {n : Nat} {ds : List D} {m : Int} (hm : 0 < m) (hm2 : m < 2 ^ 60) (hn : n < 2 ^ 60) (h : Bag n ds) {K : Rv → List Rv → Prop} (k : ∀ (r : Int) (ds' : List D), 0 ≤ r → r < m → Bag (n + 1) ds' → K (.val (.int r)) [.own (.lst ds'), .val (.int m)]) :
    WF (fn_law_take [.own (.lst ds), .val (.int m)]) K := by
  obtain ⟨zs, p, v, s, c, rfl, hp0, hs1, hs2, hc1, hc2⟩ := h
  unfold fn_law_take fn_law_take_0 m_law_take
  have fin : ∀ {r : Int} {ds' : List D}, 0 ≤ r ∧ r < m → Bag (n + 1) ds' → K (.val (.int r)) [.own (.lst ds'), .val (.int m)] := fun h1 h2 => k _ _ h1.1 h1.2 h2
  have md : ∀ x : Int, 0 ≤ x % m ∧ x % m < m := fun x => ⟨Int.emod_nonneg _ (by omega), Int.emod_lt_of_pos _ hm⟩
  walk_at "br"
  all_goals exact fin (md _) ⟨zs, _, _, _, _, rfl, by omega, by omega, by omega, by omega, by omega⟩
theorem bag_spec {zs : List Int} {K : Rv → List Rv → Prop} (k : ∀ ds, Bag 0 ds → K (.own (.lst ds)) [.val (.scr (zs.map .int))]) : WF (fn_law_bag [.val (.scr (zs.map .int))]) K := by
  unfold fn_law_bag fn_law_bag_0 m_law_bag
  walk_at "ws"
  refine V_loop (fun _ S => ∃ (s : Int) (x : Sv), S = [.val (.scr (zs.map .int)), .val (.int s), x] ∧ 0 ≤ s ∧ s < 2147483629) ⟨10007, .no, rfl, by decide, by decide⟩ ?_ ?_
  · rintro j d S hd ⟨s, x, rfl, h1, h2⟩
    rw [cutA_map, List.getElem?_map] at hd
    obtain ⟨z, hz, rfl⟩ := map_some hd
    unfold m_law_bag_L1
    walk_at "ws"
    exact ⟨_, _, rfl, by omega, by omega⟩
  · rintro S ⟨s, x, rfl, h1, h2⟩
    walk_at "ws"
    rw [cutA_map]
    exact k _ ⟨cutA zs none (some 63), 0, 0, s, 0, rfl, by omega, h1, h2, by decide, by decide⟩
noncomputable def m_r : M Fl := (gRowsA 3 4 5 "b" (gLst (gCons (toV (gLst (gCons (gD (.str "a")) (gCons (toV (gVar 2)) gNil)))) (gCons (gTup (gCons (toV (gLst (gCons (gD (.str "b")) gNil))) (gCons (gD .non) gNil))) (gCons (gTup (gCons (gTup (gCons (toV (gLst (gCons (gD (.str "c")) gNil))) gNil)) (gCons (toV (gLst (gCons (toV (gLst (gCons (gD (.int 3)) gNil))) gNil))) gNil))) gNil)))) (gLst (gCons (toV (gLst (gCons (gD (.str "a")) (gCons (toV (gVar 2)) gNil)))) (gCons (gTup (gCons (toV (gLst (gCons (gD (.str "b")) gNil))) (gCons (gD .non) gNil))) (gCons (gTup (gCons (gTup (gCons (toV (gLst (gCons (gD (.str "c")) gNil))) gNil)) (gCons (toV (gLst (gCons (toV (gLst (gCons (gD (.int 3)) gNil))) gNil))) gNil))) gNil)))) (gLst (gCons (toV (gMake 41 fn_Safe_init 1 0 (kV (toV (gVar 3)) kNil) kNil)) (gCons (toV (gMake 42 fn_Harmed_init 1 0 (kV (toV (gVar 3)) kNil) kNil)) (gCons (toV (gMake 43 fn_Bounded_init 4 0 (kV (toV (gVar 2)) (kV (toV (gVar 3)) (kV (toV (gVar 3)) (kV (toV (gVar 3)) kNil)))) kNil)) (gCons (toV (gMake 44 fn_Endless_init 3 0 (kV (toV (gVar 3)) (kV (toV (gVar 3)) (kV (toV (gVar 3)) kNil))) kNil)) (gCons (toV (gMake 45 fn_Even_init 2 0 (kV (toV (gVar 2)) (kV (toV (gVar 3)) kNil)) kNil)) (gCons (toV (gMake 46 fn_Uneven_init 2 0 (kV (toV (gVar 3)) (kV (toV (gVar 3)) kNil)) kNil)) (gCons (toV (gMake 47 fn_Alike_init 1 0 (kV (toV (gVar 3)) kNil) kNil)) (gCons (toV (gMake 48 fn_Unlike_init 1 0 (kV (toV (gVar 3)) kNil) kNil)) (gCons (toV (gMake 49 fn_Least_init 2 0 (kV (gTup (gCons (gD (.int 2)) (gCons (gD (.int 2)) gNil))) (kV (toV (gVar 3)) kNil)) kNil)) gNil)))))))))) [([0], MO.app (.int 4)), ([0, 1], MO.clr), ([0, 0, 2], MO.app (.int 5)), ([0, 1, 2], MO.app (.int 6))]
    (gSeq (gFor (gRange1 (gD (.int 2))) (bName 6) (m_law_L1))
    (gRet (M.bind (gD (.bl true)) fun d => M.pure (.dat d)))))
noncomputable def okT : G.R (Fl × Slots) → Bool
  | .ok (.rt (.dat (.bl true)), _) => true
  | _ => false
theorem okT_W {g : M Fl} {S : Slots} {K : Fl → Slots → Prop} (h : okT (g S) = true) (k : ∀ S2, K (.rt (.dat (.bl true))) S2) : W g S K := by
  unfold W
  cases e : g S with
  | bad => rw [e] at h; cases h
  | exc x S2 => rw [e] at h; cases h
  | ok p =>
    obtain ⟨fl, S2⟩ := p
    rw [e] at h
    cases fl with
    | rt pv =>
      cases pv with
      | dat d =>
        cases d with
        | bl b => cases b with
          | true => exact k S2
          | false => cases h
        | _ => cases h
      | _ => cases h
    | _ => cases h
noncomputable abbrev at75 (s b : Sv) (i : Nat) : Bool := okT (m_r [s, b, .val (.int (i : Int)), .no, .no, .no, .no, .no, .no])
theorem ev0 (s b : Sv) : at75 s b 0 = true := by kernel_rfl
theorem ev1 (s b : Sv) : at75 s b 1 = true := by kernel_rfl
theorem ev2 (s b : Sv) : at75 s b 2 = true := by kernel_rfl
theorem ev3 (s b : Sv) : at75 s b 3 = true := by kernel_rfl
theorem ev4 (s b : Sv) : at75 s b 4 = true := by kernel_rfl
theorem ev5 (s b : Sv) : at75 s b 5 = true := by kernel_rfl
theorem ev6 (s b : Sv) : at75 s b 6 = true := by kernel_rfl
theorem ev7 (s b : Sv) : at75 s b 7 = true := by kernel_rfl
theorem ev8 (s b : Sv) : at75 s b 8 = true := by kernel_rfl
theorem ev9 (s b : Sv) : at75 s b 9 = true := by kernel_rfl
theorem ev10 (s b : Sv) : at75 s b 10 = true := by kernel_rfl
theorem ev11 (s b : Sv) : at75 s b 11 = true := by kernel_rfl
theorem ev12 (s b : Sv) : at75 s b 12 = true := by kernel_rfl
theorem ev13 (s b : Sv) : at75 s b 13 = true := by kernel_rfl
theorem ev14 (s b : Sv) : at75 s b 14 = true := by kernel_rfl
theorem ev15 (s b : Sv) : at75 s b 15 = true := by kernel_rfl
theorem ev16 (s b : Sv) : at75 s b 16 = true := by kernel_rfl
theorem ev17 (s b : Sv) : at75 s b 17 = true := by kernel_rfl
theorem ev18 (s b : Sv) : at75 s b 18 = true := by kernel_rfl
theorem ev19 (s b : Sv) : at75 s b 19 = true := by kernel_rfl
theorem ev20 (s b : Sv) : at75 s b 20 = true := by kernel_rfl
theorem ev21 (s b : Sv) : at75 s b 21 = true := by kernel_rfl
theorem ev22 (s b : Sv) : at75 s b 22 = true := by kernel_rfl
theorem ev23 (s b : Sv) : at75 s b 23 = true := by kernel_rfl
theorem ev24 (s b : Sv) : at75 s b 24 = true := by kernel_rfl
theorem ev25 (s b : Sv) : at75 s b 25 = true := by kernel_rfl
theorem ev26 (s b : Sv) : at75 s b 26 = true := by kernel_rfl
theorem ev27 (s b : Sv) : at75 s b 27 = true := by kernel_rfl
theorem ev28 (s b : Sv) : at75 s b 28 = true := by kernel_rfl
theorem ev29 (s b : Sv) : at75 s b 29 = true := by kernel_rfl
theorem ev30 (s b : Sv) : at75 s b 30 = true := by kernel_rfl
theorem ev31 (s b : Sv) : at75 s b 31 = true := by kernel_rfl
theorem ev32 (s b : Sv) : at75 s b 32 = true := by kernel_rfl
theorem ev33 (s b : Sv) : at75 s b 33 = true := by kernel_rfl
theorem ev34 (s b : Sv) : at75 s b 34 = true := by kernel_rfl
theorem ev35 (s b : Sv) : at75 s b 35 = true := by kernel_rfl
theorem ev36 (s b : Sv) : at75 s b 36 = true := by kernel_rfl
theorem ev37 (s b : Sv) : at75 s b 37 = true := by kernel_rfl
theorem ev38 (s b : Sv) : at75 s b 38 = true := by kernel_rfl
theorem ev39 (s b : Sv) : at75 s b 39 = true := by kernel_rfl
theorem ev40 (s b : Sv) : at75 s b 40 = true := by kernel_rfl
theorem ev41 (s b : Sv) : at75 s b 41 = true := by kernel_rfl
theorem ev42 (s b : Sv) : at75 s b 42 = true := by kernel_rfl
theorem ev43 (s b : Sv) : at75 s b 43 = true := by kernel_rfl
theorem ev44 (s b : Sv) : at75 s b 44 = true := by kernel_rfl
theorem ev45 (s b : Sv) : at75 s b 45 = true := by kernel_rfl
theorem ev46 (s b : Sv) : at75 s b 46 = true := by kernel_rfl
theorem ev47 (s b : Sv) : at75 s b 47 = true := by kernel_rfl
theorem ev48 (s b : Sv) : at75 s b 48 = true := by kernel_rfl
theorem ev49 (s b : Sv) : at75 s b 49 = true := by kernel_rfl
theorem ev_all (s b : Sv) : ∀ i : Nat, i < 50 → at75 s b i = true
  | 0, _ => ev0 s b
  | 1, _ => ev1 s b
  | 2, _ => ev2 s b
  | 3, _ => ev3 s b
  | 4, _ => ev4 s b
  | 5, _ => ev5 s b
  | 6, _ => ev6 s b
  | 7, _ => ev7 s b
  | 8, _ => ev8 s b
  | 9, _ => ev9 s b
  | 10, _ => ev10 s b
  | 11, _ => ev11 s b
  | 12, _ => ev12 s b
  | 13, _ => ev13 s b
  | 14, _ => ev14 s b
  | 15, _ => ev15 s b
  | 16, _ => ev16 s b
  | 17, _ => ev17 s b
  | 18, _ => ev18 s b
  | 19, _ => ev19 s b
  | 20, _ => ev20 s b
  | 21, _ => ev21 s b
  | 22, _ => ev22 s b
  | 23, _ => ev23 s b
  | 24, _ => ev24 s b
  | 25, _ => ev25 s b
  | 26, _ => ev26 s b
  | 27, _ => ev27 s b
  | 28, _ => ev28 s b
  | 29, _ => ev29 s b
  | 30, _ => ev30 s b
  | 31, _ => ev31 s b
  | 32, _ => ev32 s b
  | 33, _ => ev33 s b
  | 34, _ => ev34 s b
  | 35, _ => ev35 s b
  | 36, _ => ev36 s b
  | 37, _ => ev37 s b
  | 38, _ => ev38 s b
  | 39, _ => ev39 s b
  | 40, _ => ev40 s b
  | 41, _ => ev41 s b
  | 42, _ => ev42 s b
  | 43, _ => ev43 s b
  | 44, _ => ev44 s b
  | 45, _ => ev45 s b
  | 46, _ => ev46 s b
  | 47, _ => ev47 s b
  | 48, _ => ev48 s b
  | 49, _ => ev49 s b
  | n + 50, h => absurd h (by omega)
theorem ev_at (s b : Sv) {x : Int} (hx : 0 ≤ x) (hx2 : x < 50) : okT (m_r [s, b, .val (.int x), .no, .no, .no, .no, .no, .no]) = true := by
  obtain ⟨i, rfl⟩ := Int.eq_ofNat_of_zero_le hx
  have hi : i < 50 := by omega
  exact ev_all s b i hi
theorem law_eq : m_law = gSeq (gSet 1 (gCallA fn_law_bag 1 0 (kV (toV (gVar 0)) kNil) kNil))
    (gSeq (gSet 2 (gCallA fn_law_take 2 0 (kS 1 (kV (gD (.int 50)) kNil)) kNil)) m_r) := by unfold m_law m_r; rfl
theorem main (ns : List Int) (_ : ns.length ≤ 63) : ∃ as', fn_law_0 [.val (.scr (ns.map .int))] = .ok (.val (.bl true)) as' := by
  refine (show WF (fn_law_0 [.val (.scr (ns.map .int))]) (fun r _ => r = .val (.bl true)) → ∃ as', fn_law_0 [.val (.scr (ns.map .int))] = .ok (.val (.bl true)) as' from fun h => by
    obtain ⟨v, as', e, h2⟩ := h.ok
    exact ⟨as', by rw [e, h2]⟩) ?_
  unfold fn_law_0
  rw [law_eq]
  walk_at "ws"
  refine bag_spec fun ds hB => ?_
  walk_at "ws"
  refine take_spec (by omega) (by omega) (by omega) hB fun r1 ds1 h1 h2 h3 => ?_
  walk_at "ws"
  exact okT_W (ev_at _ _ h1 h2) fun _ => rfl
end Lw
open PySem PySem.W PySem.Calls PyProof.Rows
set_option maxHeartbeats 0 in
theorem PySem.Challenge.cw_worntally_k75_lists_within_lists_holds : PySem.Challenge.rw_worntally_k75_lists_within_lists.Holds := by
  refine Lw.look_first fun said => ?_
  refine HandSHeadRun.head_any (r := OpenLaw.row PySem.Challenge.rw_worntally_k75_lists_within_lists) (q := view (OpenLaw.row PySem.Challenge.rw_worntally_k75_lists_within_lists).prog [25]) (H := Lw.hk) (ob := Lw.ob) (M := 12000) (loose := Lw.loose) (d := HandSHeadRun.topDef (OpenLaw.row PySem.Challenge.rw_worntally_k75_lists_within_lists).prog 25) (kwd := []) Lw.ob_eq
    (by kernel_rfl) (fun s => by kernel_rfl) Lw.run (by kernel_rfl) (by kernel_rfl) (by kernel_rfl) (by rfl) (by first | assumption | decide +kernel) (by decide +kernel) ⟨rfl, rfl, rfl, rfl, rfl, by decide +kernel⟩ ?hw ?hc
  case hw => w_witness2
  case hc =>
    refine G.walk_L (l := PySem.Challenge.rw_worntally_k75_lists_within_lists) (n := 63) (k := 12) (x := "_law_script") rfl (by decide) (by kernel_rfl) ⟨rfl, by decide, by decide⟩ ?F
    intro w mg fa h Y G hmg0
    obtain ⟨K, KX, c⟩ := Y
    have hmg : mg ("law" : PySem.Str) = some (.ref fa) := by
      have e : (HandSHeadRun.topDef (OpenLaw.row PySem.Challenge.rw_worntally_k75_lists_within_lists).prog 25).name = ("law" : PySem.Str) := by kernel_rfl
      rw [← e]
      exact hmg0
    obtain ⟨fd, cs, sp, h⟩ := Lw.facts (P := (PySem.Challenge.rw_worntally_k75_lists_within_lists).prog) (w := w) KX G hmg c Lw.main
    exact ⟨K, fd, cs, sp, KX, h⟩
