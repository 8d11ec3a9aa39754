import PyProof.Rows.All
import Wide.All
import OpenK.AllK
import Wide.FinOn
import HandS.ForMost
import HandS.TupAny
import HandS.TupMul
import HandS.IsInst
import HandS.Wide
import HandS.SortInts
import HandS.Conv
import HandS.Zip
import KE.GoesMore
import KE.GoesEnum
import KE.KRevSl
import PySem.Challenge.RW_rowtide_k62_whole_tables_turned
set_option Elab.async false
set_option linter.all false
set_option maxRecDepth 100000
section
/-! DL0: data with owned parts, the state of a def told without addresses. -/
namespace DL
open PySem PySem.Spec PyProof.Rows L2

abbrev ASet := Addr → Prop

/-- data, or owned lists and objects of such -/
inductive T where
  | d (x : PyData)
  | ro (ns : List Int)
  | «at» (a : Addr) (t : T)
  | lst (xs : List T)
  | obj (C : Addr) (ks : List Str) (xs : List T)
  | dk (ks : List Key) (xs : List T)

mutual
def T.toD : T → Option PyData
  | .d x => some x
  | .ro _ => none
  | .at _ _ => none
  | .lst xs => (T.toDs xs).map PyData.list
  | .obj _ _ _ => none
  | .dk _ _ => none
def T.toDs : List T → Option (List PyData)
  | [] => some []
  | t :: ts => match t.toD, T.toDs ts with
    | some x, some xs => some (x :: xs)
    | _, _ => none
end

/- data in a heap: lists that are tracked, tuples tracked or written -/
mutual
inductive Dq (K : PySem.W.Frag) (H : Hp) : V → PyData → Prop
  | non : Dq K H .non .none
  | bl (b : Bool) : Dq K H (.bl b) (.bool b)
  | int (i : Int) : Dq K H (.int i) (.int i)
  | str (x : Str) : Dq K H (.str x) (.str x)
  | lst {a : Addr} {xs : List V} {ds : List PyData} : H a = some (.lst xs) → DqAll K H xs ds → Dq K H (.ref a) (.list ds)
  | tup {a : Addr} {xs : List V} {ds : List PyData} : SqT K H a xs → DqAll K H xs ds → Dq K H (.ref a) (.tuple ds)
inductive DqAll (K : PySem.W.Frag) (H : Hp) : List V → List PyData → Prop
  | nil : DqAll K H [] []
  | cons {v : V} {vs : List V} {d : PyData} {ds : List PyData} : Dq K H v d → DqAll K H vs ds → DqAll K H (v :: vs) (d :: ds)
end
mutual
theorem Dq.dp {K : PySem.W.Frag} {H : Hp} : ∀ {v : V} {x : PyData}, Dq K H v x → Dp K H v x
  | _, _, .non => .non
  | _, _, .bl b => .bl b
  | _, _, .int i => .int i
  | _, _, .str x => .str x
  | _, _, .lst h1 h2 => .lst (SqL.of h1) (DqAll.dp h2)
  | _, _, .tup h1 h2 => .tup h1 (DqAll.dp h2)
theorem DqAll.dp {K : PySem.W.Frag} {H : Hp} : ∀ {v : List V} {x : List PyData}, DqAll K H v x → DpAll K H v x
  | _, _, .nil => .nil
  | _, _, .cons h1 h2 => .cons (Dq.dp h1) (DqAll.dp h2)
end
/- v stands for t: frozen parts in F, owned parts in H at the places A -/
mutual
inductive TR (K : PySem.W.Frag) (F H : Hp) : T → V → ASet → Prop
  | d {x : PyData} {v : V} {A : ASet} : Dq K F v x → TR K F H (.d x) v A
  | ro {ns : List Int} {a : Addr} {A : ASet} : SqL K F a (ns.map V.int) → TR K F H (.ro ns) (.ref a) A
  | «at» {a : Addr} {t : T} {A : ASet} : TR K F H t (.ref a) A → TR K F H (.at a t) (.ref a) A
  | lst {a : Addr} {ts : List T} {vs : List V} {A B : ASet} : H a = some (.lst vs) → F a = none → TRs K F H ts vs B → ¬ B a → A a → (∀ b, B b → A b) → TR K F H (.lst ts) (.ref a) A
  | obj {a C dx : Addr} {ks : List Str} {ts : List T} {vs : List V} {A B : ASet} : H a = some (.ins C dx (ks.zip vs)) → F a = none → ks.length = vs.length → TRs K F H ts vs B → ¬ B a → A a → (∀ b, B b → A b) → TR K F H (.obj C ks ts) (.ref a) A
  | dk {a : Addr} {ks : List Key} {ts : List T} {vs : List V} {A B : ASet} : H a = some (.dK (ks.zip vs)) → F a = none → ks.length = vs.length → TRs K F H ts vs B → ¬ B a → A a → (∀ b, B b → A b) → TR K F H (.dk ks ts) (.ref a) A
inductive TRs (K : PySem.W.Frag) (F H : Hp) : List T → List V → ASet → Prop
  | nil {A : ASet} : TRs K F H [] [] A
  | cons {t : T} {v : V} {ts : List T} {vs : List V} {A A1 A2 : ASet} : TR K F H t v A1 → TRs K F H ts vs A2 → (∀ b, A1 b → ¬ A2 b) → (∀ b, A1 b → A b) → (∀ b, A2 b → A b) → TRs K F H (t :: ts) (v :: vs) A
end

theorem sqL_mono {K : PySem.W.Frag} {H H' : Hp} {a : Addr} {xs : List V} (h : SqL K H a xs) (e : Same H H') : SqL K H' a xs := e.seq h
theorem sqT_mono {K : PySem.W.Frag} {H H' : Hp} {a : Addr} {xs : List V} (h : SqT K H a xs) (e : Same H H') : SqT K H' a xs := by
  rcases h with (h | ⟨o, h⟩) | h
  · exact .inl (.inl (e _ _ h))
  · exact .inl (.inr ⟨o, e _ _ h⟩)
  · exact .inr h
mutual
theorem dp_mono {K : PySem.W.Frag} {H H' : Hp} (e : Same H H') : ∀ {v : V} {x : PyData}, Dq K H v x → Dq K H' v x
  | _, _, .non => .non
  | _, _, .bl b => .bl b
  | _, _, .int i => .int i
  | _, _, .str x => .str x
  | _, _, .lst h1 h2 => .lst (e _ _ h1) (dpa_mono e h2)
  | _, _, .tup h1 h2 => .tup (sqT_mono h1 e) (dpa_mono e h2)
theorem dpa_mono {K : PySem.W.Frag} {H H' : Hp} (e : Same H H') : ∀ {v : List V} {x : List PyData}, DqAll K H v x → DqAll K H' v x
  | _, _, .nil => .nil
  | _, _, .cons h1 h2 => .cons (dp_mono e h1) (dpa_mono e h2)
end
mutual
theorem TR.weak {K : PySem.W.Frag} {F H : Hp} {A A' : ASet} (e : ∀ b, A b → A' b) : ∀ {t : T} {v : V}, TR K F H t v A → TR K F H t v A'
  | _, _, .d h => .d h
  | _, _, .ro h => .ro h
  | _, _, .at h => .at (TR.weak e h)
  | _, _, .lst h1 h2 h3 h4 h5 h6 => .lst h1 h2 h3 h4 (e _ h5) (fun b q => e b (h6 b q))
  | _, _, .obj h1 h2 h0 h3 h4 h5 h6 => .obj h1 h2 h0 h3 h4 (e _ h5) (fun b q => e b (h6 b q))
  | _, _, .dk h1 h2 h0 h3 h4 h5 h6 => .dk h1 h2 h0 h3 h4 (e _ h5) (fun b q => e b (h6 b q))
theorem TRs.weak {K : PySem.W.Frag} {F H : Hp} {A A' : ASet} (e : ∀ b, A b → A' b) : ∀ {t : List T} {v : List V}, TRs K F H t v A → TRs K F H t v A'
  | _, _, .nil => .nil
  | _, _, .cons h1 h2 h3 h4 h5 => .cons h1 h2 h3 (fun b q => e b (h4 b q)) (fun b q => e b (h5 b q))
end
/- what lies at A is left as it is -/
mutual
theorem TR.frame {K : PySem.W.Frag} {F H F' H' : Hp} (e : Same F F') : ∀ {t : T} {v : V} {A : ASet}, TR K F H t v A → (∀ b, A b → H' b = H b) → (∀ b, A b → F' b = none) → TR K F' H' t v A
  | _, _, _, .d h, _, _ => .d (dp_mono e h)
  | _, _, _, .ro h, _, _ => .ro (sqL_mono h e)
  | _, _, _, .at h, k, n => .at (TR.frame e h k n)
  | _, _, _, .lst h1 h2 h3 h4 h5 h6, k, n => .lst ((k _ h5).trans h1) (n _ h5) (TRs.frame e h3 (fun b q => k b (h6 b q)) fun b q => n b (h6 b q)) h4 h5 h6
  | _, _, _, .obj h1 h2 h0 h3 h4 h5 h6, k, n => .obj ((k _ h5).trans h1) (n _ h5) h0 (TRs.frame e h3 (fun b q => k b (h6 b q)) fun b q => n b (h6 b q)) h4 h5 h6
  | _, _, _, .dk h1 h2 h0 h3 h4 h5 h6, k, n => .dk ((k _ h5).trans h1) (n _ h5) h0 (TRs.frame e h3 (fun b q => k b (h6 b q)) fun b q => n b (h6 b q)) h4 h5 h6
theorem TRs.frame {K : PySem.W.Frag} {F H F' H' : Hp} (e : Same F F') : ∀ {t : List T} {v : List V} {A : ASet}, TRs K F H t v A → (∀ b, A b → H' b = H b) → (∀ b, A b → F' b = none) → TRs K F' H' t v A
  | _, _, _, .nil, _, _ => .nil
  | _, _, _, .cons h1 h2 h3 h4 h5, k, n => .cons (TR.frame e h1 (fun b q => k b (h4 b q)) fun b q => n b (h4 b q)) (TRs.frame e h2 (fun b q => k b (h5 b q)) fun b q => n b (h5 b q)) h3 h4 h5
end
/- frozen: what lies at A is laid to F -/
mutual
theorem TR.freeze {K : PySem.W.Frag} {F H G : Hp} (e : Same F G) : ∀ {t : T} {v : V} {A : ASet} {x : PyData}, TR K F H t v A → t.toD = some x → (∀ b, A b → G b = H b) → Dq K G v x
  | _, _, _, _, .d h, q, _ => by
    cases q
    exact dp_mono e h
  | _, _, _, _, .ro h, q, _ => by rw [T.toD] at q; cases q
  | _, _, _, _, .at h, q, _ => by rw [T.toD] at q; cases q
  | .lst ts, _, _, _, .lst h1 h2 h3 h4 h5 h6, q, k => by
    rw [T.toD] at q
    cases hx : T.toDs ts with
    | none => rw [hx] at q; cases q
    | some xs =>
      rw [hx] at q
      cases q
      exact .lst ((k _ h5).trans h1) (TRs.freeze e h3 hx fun b q => k b (h6 b q))
  | _, _, _, _, .obj h1 h2 h0 h3 h4 h5 h6, q, k => by rw [T.toD] at q; cases q
  | _, _, _, _, .dk h1 h2 h0 h3 h4 h5 h6, q, k => by rw [T.toD] at q; cases q
theorem TRs.freeze {K : PySem.W.Frag} {F H G : Hp} (e : Same F G) : ∀ {t : List T} {v : List V} {A : ASet} {x : List PyData}, TRs K F H t v A → T.toDs t = some x → (∀ b, A b → G b = H b) → DqAll K G v x
  | _, _, _, _, .nil, q, _ => by
    rw [T.toDs] at q
    cases q
    exact .nil
  | t :: ts, _, _, _, .cons h1 h2 h3 h4 h5, q, k => by
    rw [T.toDs] at q
    cases hx : t.toD with
    | none => rw [hx] at q; cases q
    | some x =>
      cases hy : T.toDs ts with
      | none => rw [hx, hy] at q; cases q
      | some xs =>
        rw [hx, hy] at q
        cases q
        exact .cons (TR.freeze e h1 hx fun b q => k b (h4 b q)) (TRs.freeze e h2 hy fun b q => k b (h5 b q))
end

theorem T.toDs_map : ∀ ds : List PyData, T.toDs (ds.map T.d) = some ds
  | [] => by rw [List.map_nil, T.toDs]
  | x :: xs => by rw [List.map_cons, T.toDs, T.toD, T.toDs_map xs]
theorem T.toD_lst (ds : List PyData) : (T.lst (ds.map T.d)).toD = some (.list ds) := by rw [T.toD, T.toDs_map]; rfl

section
variable {K : PySem.W.Frag} {F H : Hp}
theorem TRs.len : ∀ {ts : List T} {vs : List V} {A : ASet}, TRs K F H ts vs A → ts.length = vs.length
  | _, _, _, .nil => rfl
  | _, _, _, .cons _ h2 _ _ _ => by rw [List.length_cons, List.length_cons, TRs.len h2]
theorem TRs.get : ∀ {ts : List T} {vs : List V} {A : ASet} {i : Nat} {t : T}, TRs K F H ts vs A → ts[i]? = some t → ∃ v B, vs[i]? = some v ∧ TR K F H t v B ∧ ∀ b, B b → A b
  | _, _, _, _, _, .nil, e => by simp at e
  | _, _, _, 0, _, .cons h1 _ _ h4 _, e => by
    simp at e
    subst e
    exact ⟨_, _, rfl, h1, h4⟩
  | _, _, _, i + 1, _, .cons _ h2 _ _ h5, e => by
    obtain ⟨v, B, q1, q2, q3⟩ := TRs.get (i := i) h2 (by simpa using e)
    exact ⟨v, B, by simpa using q1, q2, fun b z => h5 b (q3 b z)⟩
theorem TRs.append : ∀ {ts : List T} {vs : List V} {A B C : ASet} {us : List T} {ws : List V}, TRs K F H ts vs A → TRs K F H us ws B → (∀ b, A b → ¬ B b) → (∀ b, A b → C b) → (∀ b, B b → C b) → TRs K F H (ts ++ us) (vs ++ ws) C
  | _, _, _, _, _, _, _, .nil, h, _, _, e2 => h.weak e2
  | _, _, _, B, C, _, _, .cons (A1 := A1) (A2 := A2) h1 h2 h3 h4 h5, h, dj, e1, e2 =>
    .cons (A2 := fun b => A2 b ∨ B b) h1 (TRs.append h2 h (fun b q => dj b (h5 b q)) (fun b q => .inl q) fun b q => .inr q) (fun b q z => z.elim (h3 b q) (dj b (h4 b q))) (fun b q => e1 b (h4 b q)) fun b q => q.elim (fun q => e1 b (h5 b q)) (e2 b)
theorem TRs.one {t : T} {v : V} {A : ASet} (h : TR K F H t v A) : TRs K F H [t] [v] A := .cons (A2 := fun _ => False) h .nil (fun _ _ z => z) (fun _ q => q) fun _ z => z.elim
/-- an element is put in the place of another -/
theorem TRs.set : ∀ {ts : List T} {vs : List V} {A B C : ASet} {i : Nat} {t : T} {v : V}, TRs K F H ts vs A → TR K F H t v B → (∀ b, A b → ¬ B b) → (∀ b, A b → C b) → (∀ b, B b → C b) → TRs K F H (ts.set i t) (vs.set i v) C
  | _, _, _, _, _, _, _, _, .nil, h, _, _, e2 => .nil
  | _, _, _, B, C, 0, _, _, .cons h1 h2 h3 h4 h5, h, dj, e1, e2 => .cons h h2 (fun b q z => dj b (h5 b z) q) e2 fun b q => e1 b (h5 b q)
  | _, _, _, B, C, i + 1, _, _, .cons (A1 := A1) (A2 := A2) h1 h2 h3 h4 h5, h, dj, e1, e2 =>
    .cons (A2 := fun b => A2 b ∨ B b) h1 (TRs.set h2 h (fun b q => dj b (h5 b q)) (fun b q => .inl q) fun b q => .inr q) (fun b q z => z.elim (h3 b q) (dj b (h4 b q))) (fun b q => e1 b (h4 b q)) fun b q => q.elim (fun q => e1 b (h5 b q)) (e2 b)
theorem TRs.dropLast : ∀ {ts : List T} {vs : List V} {A : ASet}, TRs K F H ts vs A → TRs K F H ts.dropLast vs.dropLast A
  | _, _, _, .nil => .nil
  | _, _, _, .cons h1 .nil h3 h4 h5 => .nil
  | _, _, _, .cons h1 (.cons q1 q2 q3 q4 q5) h3 h4 h5 => .cons h1 (TRs.dropLast (.cons q1 q2 q3 q4 q5)) h3 h4 h5
theorem TRs.eraseIdx : ∀ {ts : List T} {vs : List V} {A : ASet} (i : Nat), TRs K F H ts vs A → TRs K F H (ts.eraseIdx i) (vs.eraseIdx i) A
  | _, _, _, _, .nil => .nil
  | _, _, _, 0, .cons h1 h2 h3 h4 h5 => h2.weak h5
  | _, _, _, i + 1, .cons h1 h2 h3 h4 h5 => .cons h1 (TRs.eraseIdx i h2) h3 h4 h5
theorem TRs.ofD {A : ASet} : ∀ {ds : List PyData} {vs : List V}, DqAll K F vs ds → TRs K F H (ds.map T.d) vs A
  | _, _, .nil => .nil
  | _, _, .cons h1 h2 => .cons (A1 := fun _ => False) (A2 := fun _ => False) (.d h1) (TRs.ofD h2) (fun _ z => z.elim) (fun _ z => z.elim) fun _ z => z.elim
theorem TRs.toD : ∀ {ds : List PyData} {vs : List V} {A : ASet}, TRs K F H (ds.map T.d) vs A → DqAll K F vs ds
  | [], _, _, .nil => .nil
  | _ :: _, _, _, .cons (.d h1) h2 _ _ _ => .cons h1 (TRs.toD h2)
theorem dpa_len : ∀ {vs : List V} {ds : List PyData}, DqAll K F vs ds → vs.length = ds.length
  | _, _, .nil => rfl
  | _, _, .cons _ h => by rw [List.length_cons, List.length_cons, dpa_len h]
theorem dpa_get : ∀ {vs : List V} {ds : List PyData} {i : Nat} {x : PyData}, DqAll K F vs ds → ds[i]? = some x → ∃ v, vs[i]? = some v ∧ Dq K F v x
  | _, _, _, _, .nil, e => by simp at e
  | _, _, 0, _, .cons h _, e => by
    simp at e
    subst e
    exact ⟨_, rfl, h⟩
  | _, _, i + 1, _, .cons _ h, e => by
    obtain ⟨v, q1, q2⟩ := dpa_get (i := i) h (by simpa using e)
    exact ⟨v, by simpa using q1, q2⟩
theorem dpa_get' : ∀ {vs : List V} {ds : List PyData} {i : Nat} {v : V}, DqAll K F vs ds → vs[i]? = some v → ∃ x, ds[i]? = some x ∧ Dq K F v x
  | _, _, _, _, .nil, e => by simp at e
  | _, _, 0, _, .cons h _, e => by
    simp at e
    subst e
    exact ⟨_, rfl, h⟩
  | _, _, i + 1, _, .cons _ h, e => by
    obtain ⟨v, q1, q2⟩ := dpa_get' (i := i) h (by simpa using e)
    exact ⟨v, by simpa using q1, q2⟩
theorem dpa_append : ∀ {vs ws : List V} {ds es : List PyData}, DqAll K F vs ds → DqAll K F ws es → DqAll K F (vs ++ ws) (ds ++ es)
  | _, _, _, _, .nil, h => h
  | _, _, _, _, .cons q h, h2 => .cons q (dpa_append h h2)
theorem dpa_take : ∀ {vs : List V} {ds : List PyData} (n : Nat), DqAll K F vs ds → DqAll K F (vs.take n) (ds.take n)
  | _, _, 0, _ => .nil
  | _, _, _ + 1, .nil => .nil
  | _, _, n + 1, .cons q h => .cons q (dpa_take n h)
theorem dpa_drop : ∀ {vs : List V} {ds : List PyData} (n : Nat), DqAll K F vs ds → DqAll K F (vs.drop n) (ds.drop n)
  | _, _, 0, h => h
  | _, _, _ + 1, .nil => .nil
  | _, _, n + 1, .cons q h => dpa_drop n h
theorem dp_scalar_int {v : V} {i : Int} (h : Dq K F v (.int i)) : v = .int i := by cases h; rfl
theorem dp_scalar_bl {v : V} {i : Bool} (h : Dq K F v (.bool i)) : v = .bl i := by cases h; rfl
theorem dp_scalar_str {v : V} {i : Str} (h : Dq K F v (.str i)) : v = .str i := by cases h; rfl
theorem dp_scalar_non {v : V} (h : Dq K F v .none) : v = .non := by cases h; rfl
theorem dpa_ints : ∀ {vs : List V} {ns : List Int}, DqAll K F vs (ns.map PyData.int) → vs = ns.map V.int
  | _, [], .nil => rfl
  | _, n :: ns, .cons h1 h2 => by
    rw [dp_scalar_int h1, dpa_ints h2]
    rfl
theorem dpa_ofInts : ∀ ns : List Int, DqAll K F (ns.map V.int) (ns.map PyData.int)
  | [] => .nil
  | n :: ns => .cons (.int n) (dpa_ofInts ns)
theorem dpa_bls : ∀ {vs : List V} {ns : List Bool}, DqAll K F vs (ns.map PyData.bool) → vs = ns.map V.bl
  | _, [], .nil => rfl
  | _, n :: ns, .cons h1 h2 => by
    rw [dp_scalar_bl h1, dpa_bls h2]
    rfl
end
end DL
end
section
set_option autoImplicit false
/-! DL1: the state Env, its changes. -/
namespace DL
open PySem PySem.Spec PyProof.Rows L2

structure Par where
  Hb : Hp
  Fm : Hp

abbrev Gm := List (Option T)

structure EnvX (K : PySem.W.Frag) (P : Par) (G : Gm) (ts : List T) (σ : L2.St) (vs : List V) (H F : Hp) (As : Nat → ASet) (B : ASet) : Prop where
  hb : Same P.Hb F
  fh : Same F H
  fm : Same P.Fm H
  fmF : ∀ b o, P.Fm b = some o → F b = none
  fmA : ∀ b o, P.Fm b = some o → ∀ i, ¬ As i b
  fmB : ∀ b o, P.Fm b = some o → ¬ B b
  sl : ∀ i t, G[i]? = some (some t) → ∃ v, σ[i]? = some (some v) ∧ TR K F H t v (As i)
  tm : TRs K F H ts vs B
  dj : ∀ i j, i ≠ j → ∀ b, As i b → ¬ As j b
  dB : ∀ i b, As i b → ¬ B b
  fA : ∀ i b, As i b → F b = none ∧ H b ≠ none
  fB : ∀ b, B b → F b = none ∧ H b ≠ none
  pn : True
  len : G.length = σ.length

def Env (K : PySem.W.Frag) (P : Par) (G : Gm) (ts : List T) (σ : L2.St) (vs : List V) (H : Hp) : Prop := ∃ F As B, EnvX K P G ts σ vs H F As B

theorem ne_none_of {H : Hp} {b : Addr} {o : HO} (h : H b = some o) : H b ≠ none := fun e => by rw [h] at e; cases e

section
variable {K : PySem.W.Frag} {P : Par} {G : Gm} {ts : List T} {σ : L2.St} {vs : List V} {H F : Hp} {As : Nat → ASet} {B : ASet}

theorem same_upd {H : Hp} {p : Addr} {o : HO} (h : H p = none) : Same H (upd H p o) := fun b x e => by
  rw [upd_ne (ne_of_none e h)]
  exact e
theorem same_upd2 {F H : Hp} {p : Addr} {o : HO} (e : Same F H) : Same (upd F p o) (upd H p o) := fun b x q => by
  by_cases z : b = p
  · subst z
    rw [upd_same] at q ⊢
    exact q
  · rw [upd_ne z] at q ⊢
    exact e b x q
theorem Same.none {F H : Hp} (e : Same F H) {p : Addr} (h : H p = none) : F p = none := by
  cases q : F p with
  | none => rfl
  | some o => rw [e p o q] at h; cases h

/-- the temporaries alone are changed for data that F holds -/
theorem EnvX.tmps (x : EnvX K P G ts σ vs H F As B) {ts' : List T} {vs' : List V} (h : TRs K F H ts' vs' B) : EnvX K P G ts' σ vs' H F As B :=
  ⟨x.hb, x.fh, x.fm, x.fmF, x.fmA, x.fmB, x.sl, h, x.dj, x.dB, x.fA, x.fB, x.pn, x.len⟩
theorem EnvX.push (x : EnvX K P G ts σ vs H F As B) {d : PyData} {v : V} (h : Dq K F v d) : EnvX K P G (.d d :: ts) σ (v :: vs) H F As B :=
  x.tmps (.cons (A1 := fun _ => False) (A2 := B) (.d h) x.tm (fun _ z => z.elim) (fun _ z => z.elim) fun _ z => z)
theorem EnvX.pop (x : EnvX K P G ts σ vs H F As B) {t : T} {ts' : List T} {v : V} {vs' : List V} (e : ts = t :: ts') (e' : vs = v :: vs') : EnvX K P G ts' σ vs' H F As B := by
  subst e e'
  cases x.tm with
  | cons h1 h2 h3 h4 h5 => exact x.tmps (h2.weak h5)
theorem Env.pop {t : T} {v : V} (x : Env K P G (t :: ts) σ (v :: vs) H) : Env K P G ts σ vs H := by
  obtain ⟨F, As, B, x⟩ := x
  exact ⟨F, As, B, x.pop rfl rfl⟩
theorem Env.push {d : PyData} {v : V} (x : Env K P G ts σ vs H) (h : ∀ F, Dq K F v d) : Env K P G (.d d :: ts) σ (v :: vs) H := by
  obtain ⟨F, As, B, x⟩ := x
  exact ⟨F, As, B, x.push (h F)⟩
theorem Env.pushI (x : Env K P G ts σ vs H) (i : Int) : Env K P G (.d (.int i) :: ts) σ (.int i :: vs) H := x.push fun _ => .int i
theorem Env.pushB (x : Env K P G ts σ vs H) (i : Bool) : Env K P G (.d (.bool i) :: ts) σ (.bl i :: vs) H := x.push fun _ => .bl i
theorem Env.pushS (x : Env K P G ts σ vs H) (i : Str) : Env K P G (.d (.str i) :: ts) σ (.str i :: vs) H := x.push fun _ => .str i
theorem Env.pushN (x : Env K P G ts σ vs H) : Env K P G (.d .none :: ts) σ (.non :: vs) H := x.push fun _ => .non
/-- the topmost temporary, data -/
theorem EnvX.head {d : PyData} {v : V} {vs' : List V} {ts' : List T} (x : EnvX K P G (.d d :: ts') σ (v :: vs') H F As B) : Dq K F v d := by
  cases x.tm with
  | cons h1 h2 h3 h4 h5 =>
    cases h1 with
    | d h => exact h
theorem Env.head {d : PyData} {v : V} (x : Env K P G (.d d :: ts) σ (v :: vs) H) : Dq K H v d := by
  obtain ⟨F, As, B, x⟩ := x
  exact dp_mono x.fh x.head
theorem Env.int {i : Int} {v : V} (x : Env K P G (.d (.int i) :: ts) σ (v :: vs) H) : v = .int i := dp_scalar_int x.head
theorem Env.bl {i : Bool} {v : V} (x : Env K P G (.d (.bool i) :: ts) σ (v :: vs) H) : v = .bl i := dp_scalar_bl x.head
theorem Env.str {i : Str} {v : V} (x : Env K P G (.d (.str i) :: ts) σ (v :: vs) H) : v = .str i := dp_scalar_str x.head
theorem Env.non {v : V} (x : Env K P G (.d .none :: ts) σ (v :: vs) H) : v = .non := dp_scalar_non x.head

/-- a new object, frozen -/
theorem EnvX.allocF (x : EnvX K P G ts σ vs H F As B) {p : Addr} {o : HO} (hp : H p = none) : EnvX K P G ts σ vs (upd H p o) (upd F p o) As B := by
  have fp : F p = none := Same.none x.fh hp
  have nA : ∀ i b, As i b → b ≠ p := fun i b q e => by
    subst e
    exact (x.fA i b q).2 hp
  have nB : ∀ b, B b → b ≠ p := fun b q e => by
    subst e
    exact (x.fB b q).2 hp
  have nF : ∀ b o, P.Fm b = some o → b ≠ p := fun b o q => ne_of_none (x.fm b o q) hp
  refine ⟨fun b o q => same_upd fp _ _ (x.hb b o q), same_upd2 x.fh, fun b o q => same_upd hp _ _ (x.fm b o q), fun b o q => ?_, x.fmA, x.fmB, fun i t q => ?_, ?_, x.dj, x.dB, fun i b q => ?_, fun b q => ?_, x.pn, x.len⟩
  · rw [upd_ne (nF b o q)]
    exact x.fmF b o q
  · obtain ⟨v, e, h⟩ := x.sl i t q
    exact ⟨v, e, h.frame (same_upd fp) (fun b z => upd_ne (nA i b z)) fun b z => by rw [upd_ne (nA i b z)]; exact (x.fA i b z).1⟩
  · exact x.tm.frame (same_upd fp) (fun b z => upd_ne (nB b z)) fun b z => by rw [upd_ne (nB b z)]; exact (x.fB b z).1
  · rw [upd_ne (nA i b q), upd_ne (nA i b q)]
    exact x.fA i b q
  · rw [upd_ne (nB b q), upd_ne (nB b q)]
    exact x.fB b q
/-- a new object of ours, on the stack -/
theorem EnvX.allocL (x : EnvX K P G ts σ vs H F As B) {ts1 ts2 : List T} {us ws : List V} (e : ts = ts1 ++ ts2) (e' : vs = us ++ ws) (hl : ts1.length = us.length) {p : Addr} (hp : H p = none) :
    EnvX K P G (.lst ts1 :: ts2) σ (.ref p :: ws) (upd H p (.lst us)) F As (fun b => b = p ∨ B b) := by
  subst e e'
  have fp : F p = none := Same.none x.fh hp
  have nA : ∀ i b, As i b → b ≠ p := fun i b q e => by
    subst e
    exact (x.fA i b q).2 hp
  have nB : ∀ b, B b → b ≠ p := fun b q e => by
    subst e
    exact (x.fB b q).2 hp
  have nF : ∀ b o, P.Fm b = some o → b ≠ p := fun b o q => ne_of_none (x.fm b o q) hp
  have nFF : ∀ b o, F b = some o → b ≠ p := fun b o q => ne_of_none (x.fh b o q) hp
  have split : ∀ (ts1 : List T) (us : List V) (B : ASet), ts1.length = us.length → TRs K F H (ts1 ++ ts2) (us ++ ws) B → ∃ B1 B2 : ASet, TRs K F H ts1 us B1 ∧ TRs K F H ts2 ws B2 ∧ (∀ b, B1 b → ¬ B2 b) ∧ (∀ b, B1 b → B b) ∧ (∀ b, B2 b → B b) := by
    intro ts1
    induction ts1 with
    | nil =>
      intro us B hl h
      cases us with
      | nil => exact ⟨fun _ => False, B, .nil, h, fun _ z => z.elim, fun _ z => z.elim, fun _ z => z⟩
      | cons _ _ => cases hl
    | cons t ts1 ih =>
      intro us B hl h
      cases us with
      | nil => cases hl
      | cons u us =>
        cases h with
        | cons h1 h2 h3 h4 h5 =>
          obtain ⟨B1, B2, q1, q2, q3, q4, q5⟩ := ih us _ (Nat.succ.inj hl) h2
          rename_i A1 A2
          exact ⟨fun b => A1 b ∨ B1 b, B2, .cons h1 q1 (fun b z w => h3 b z (q4 b w)) (fun b z => .inl z) (fun b z => .inr z), q2, fun b z w => z.elim (fun z => h3 b z (q5 b w)) fun z => q3 b z w,
            fun b z => z.elim (h4 b) fun z => h5 b (q4 b z), fun b z => h5 b (q5 b z)⟩
  obtain ⟨B1, B2, q1, q2, q3, q4, q5⟩ := split ts1 us B hl x.tm
  have fr : ∀ (B' : ASet) ts' vs', (∀ b, B' b → B b) → TRs K F H ts' vs' B' → TRs K F (upd H p (.lst us)) ts' vs' B' := fun B' ts' vs' hB h =>
    h.frame (Same.refl F) (fun b z => upd_ne (nB b (hB b z))) fun b z => (x.fB b (hB b z)).1
  refine ⟨x.hb, fun b o q => same_upd hp _ _ (x.fh b o q), fun b o q => same_upd hp _ _ (x.fm b o q), x.fmF, x.fmA, fun b o q z => z.elim (nF b o q) (x.fmB b o q), fun i t q => ?_, ?_, x.dj, fun i b q z => z.elim (nA i b q) (x.dB i b q), fun i b q => ?_, fun b q => ?_, x.pn, x.len⟩
  · obtain ⟨v, e, h⟩ := x.sl i t q
    exact ⟨v, e, h.frame (Same.refl F) (fun b z => upd_ne (nA i b z)) fun b z => (x.fA i b z).1⟩
  · refine .cons (A1 := fun b => b = p ∨ B1 b) (.lst (B := B1) upd_same fp (fr B1 _ _ q4 q1) (fun z => nB p (q4 p z) rfl) (.inl rfl) fun b z => .inr z) (fr B2 _ _ q5 q2) (fun b z w => z.elim (fun e => nB b (q5 b w) e) fun z => q3 b z w)
      (fun b z => z.elim .inl fun z => .inr (q4 b z)) fun b z => .inr (q5 b z)
  · rw [upd_ne (nA i b q)]
    exact x.fA i b q
  · rcases q with e | q
    · subst e
      exact ⟨fp, by rw [upd_same]; exact fun e => nomatch e⟩
    · rw [upd_ne (nB b q)]
      exact x.fB b q

open Classical in
/-- the topmost temporary is frozen -/
theorem EnvX.freezeT {t : T} {d : PyData} {v : V} {vs' : List V} {ts' : List T} (x : EnvX K P G (t :: ts') σ (v :: vs') H F As B) (h : t.toD = some d) :
    ∃ F' B', EnvX K P G (.d d :: ts') σ (v :: vs') H F' As B' ∧ Same F F' := by
  cases x.tm with
  | cons h1 h2 h3 h4 h5 =>
    rename_i A1 A2
    have e : Same F (fun b => if A1 b then H b else F b) := fun b o q => by
      show (if A1 b then H b else F b) = some o
      split
      · rename_i z
        rw [(x.fB b (h4 b z)).1] at q
        cases q
      · exact q
    have off : ∀ b, ¬ A1 b → (fun b => if A1 b then H b else F b) b = F b := fun b z => if_neg z
    refine ⟨fun b => if A1 b then H b else F b, A2, ⟨fun b o q => e b o (x.hb b o q), fun b o q => ?_, x.fm, fun b o q => ?_, x.fmA, fun b o q z => x.fmB b o q (h5 b z), fun i t q => ?_, ?_, x.dj, fun i b q z => x.dB i b q (h5 b z), fun i b q => ?_, fun b q => ?_, x.pn, x.len⟩, e⟩
    · have q : (if A1 b then H b else F b) = some o := q
      split at q
      · exact q
      · exact x.fh b o q
    · exact (off b fun z => x.fmB b o q (h4 b z)).trans (x.fmF b o q)
    · obtain ⟨v, e1, h⟩ := x.sl i t q
      exact ⟨v, e1, h.frame e (fun _ _ => rfl) fun b z => (off b fun w => x.dB i b z (h4 b w)).trans (x.fA i b z).1⟩
    · refine .cons (A1 := fun _ => False) (A2 := A2) (.d (h1.freeze e h fun b z => if_pos z)) (h2.frame e (fun _ _ => rfl) fun b z => (off b fun w => h3 b w z).trans (x.fB b (h5 b z)).1) (fun _ z => z.elim) (fun _ z => z.elim) fun _ z => z
    · exact ⟨(off b fun w => x.dB i b q (h4 b w)).trans (x.fA i b q).1, (x.fA i b q).2⟩
    · exact ⟨(off b fun w => h3 b w q).trans (x.fB b (h5 b q)).1, (x.fB b (h5 b q)).2⟩
open Classical in
/-- a slot is frozen -/
theorem EnvX.freezeS {i : Nat} {t : T} {d : PyData} (x : EnvX K P G ts σ vs H F As B) (hi : G[i]? = some (some t)) (h : t.toD = some d) :
    ∃ F' As', EnvX K P (G.set i (some (.d d))) ts σ vs H F' As' B ∧ ∃ v, σ[i]? = some (some v) ∧ Dq K F' v d := by
  obtain ⟨v, ev, hv⟩ := x.sl i t hi
  have e : Same F (fun b => if As i b then H b else F b) := fun b o q => by
    show (if As i b then H b else F b) = some o
    split
    · rename_i z
      rw [(x.fA i b z).1] at q
      cases q
    · exact q
  have off : ∀ b, ¬ As i b → (fun b => if As i b then H b else F b) b = F b := fun b z => if_neg z
  have hd : Dq K (fun b => if As i b then H b else F b) v d := hv.freeze e h fun b z => if_pos z
  have sub : ∀ j b, (if j = i then fun _ => False else As j) b → As j b ∧ j ≠ i := fun j b z => by
    by_cases hj : j = i
    · rw [if_pos hj] at z
      exact z.elim
    · rw [if_neg hj] at z
      exact ⟨z, hj⟩
  refine ⟨fun b => if As i b then H b else F b, fun j => if j = i then fun _ => False else As j, ⟨fun b o q => e b o (x.hb b o q), fun b o q => ?_, x.fm, fun b o q => ?_, fun b o q j z => x.fmA b o q j (sub j b z).1, x.fmB, fun j t' q => ?_, ?_, fun j k hjk b z w => x.dj j k hjk b (sub j b z).1 (sub k b w).1,
    fun j b z => x.dB j b (sub j b z).1, fun j b z => ?_, fun b q => ?_, x.pn, by rw [List.length_set]; exact x.len⟩, v, ev, hd⟩
  · have q : (if As i b then H b else F b) = some o := q
    split at q
    · exact q
    · exact x.fh b o q
  · exact (off b (x.fmA b o q i)).trans (x.fmF b o q)
  · by_cases hj : j = i
    · subst hj
      rw [List.getElem?_set_self (List.getElem?_eq_some_iff.mp hi).1] at q
      cases q
      exact ⟨v, ev, .d hd⟩
    · rw [List.getElem?_set_ne (Ne.symm hj)] at q
      obtain ⟨v, e1, h⟩ := x.sl j t' q
      refine ⟨v, e1, ?_⟩
      rw [if_neg hj]
      exact h.frame e (fun _ _ => rfl) fun b z => (off b fun w => x.dj j i hj b z w).trans (x.fA j b z).1
  · exact x.tm.frame e (fun _ _ => rfl) fun b z => (off b fun w => x.dB i b w z).trans (x.fB b z).1
  · obtain ⟨z, hj⟩ := sub j b z
    exact ⟨(off b fun w => x.dj j i hj b z w).trans (x.fA j b z).1, (x.fA j b z).2⟩
  · exact ⟨(off b fun w => x.dB i b w q).trans (x.fB b q).1, (x.fB b q).2⟩
/-- the topmost temporary goes to a slot -/
theorem EnvX.store {i : Nat} {t : T} {v : V} {vs' : List V} {ts' : List T} (x : EnvX K P G (t :: ts') σ (v :: vs') H F As B) (hi : i < G.length) :
    ∃ As' B', EnvX K P (G.set i (some t)) ts' (σ.set i (some v)) vs' H F As' B' := by
  cases x.tm with
  | cons h1 h2 h3 h4 h5 =>
    rename_i A1 A2
    have key : ∀ j b, (if j = i then A1 else As j) b → (j = i ∧ A1 b) ∨ (j ≠ i ∧ As j b) := fun j b z => by
      by_cases hj : j = i
      · rw [if_pos hj] at z
        exact .inl ⟨hj, z⟩
      · rw [if_neg hj] at z
        exact .inr ⟨hj, z⟩
    have hi' : i < σ.length := by rw [← x.len]; exact hi
    refine ⟨fun j => if j = i then A1 else As j, A2, x.hb, x.fh, x.fm, x.fmF, fun b o q j z => ?_, fun b o q z => x.fmB b o q (h5 b z), fun j t' q => ?_, h2, fun j k hjk b z w => ?_, fun j b z w => ?_, fun j b z => ?_, fun b q => x.fB b (h5 b q), trivial, by rw [List.length_set, List.length_set]; exact x.len⟩
    · rcases key j b z with ⟨_, z⟩ | ⟨_, z⟩
      · exact x.fmB b o q (h4 b z)
      · exact x.fmA b o q j z
    · by_cases hj : j = i
      · subst hj
        rw [List.getElem?_set_self hi] at q
        cases q
        exact ⟨v, List.getElem?_set_self hi', by rw [if_pos rfl]; exact h1⟩
      · rw [List.getElem?_set_ne (Ne.symm hj)] at q
        obtain ⟨v, e1, h⟩ := x.sl j t' q
        refine ⟨v, by rw [List.getElem?_set_ne (Ne.symm hj)]; exact e1, ?_⟩
        rw [if_neg hj]
        exact h
    · rcases key j b z with ⟨e1, z⟩ | ⟨e1, z⟩ <;> rcases key k b w with ⟨e2, w⟩ | ⟨e2, w⟩
      · exact hjk (e1.trans e2.symm)
      · exact x.dB k b w (h4 b z)
      · exact x.dB j b z (h4 b w)
      · exact x.dj j k hjk b z w
    · rcases key j b z with ⟨_, z⟩ | ⟨_, z⟩
      · exact h3 b z w
      · exact x.dB j b z (h5 b w)
    · rcases key j b z with ⟨_, z⟩ | ⟨_, z⟩
      · exact x.fB b (h4 b z)
      · exact x.fA j b z
/-- a slot's thing is moved onto the stack -/
theorem EnvX.take {i : Nat} {t : T} (x : EnvX K P G ts σ vs H F As B) (hi : G[i]? = some (some t)) :
    ∃ v As' B', σ[i]? = some (some v) ∧ EnvX K P (G.set i none) (t :: ts) σ (v :: vs) H F As' B' := by
  obtain ⟨v, ev, hv⟩ := x.sl i t hi
  have sub : ∀ j b, (if j = i then fun _ => False else As j) b → As j b ∧ j ≠ i := fun j b z => by
    by_cases hj : j = i
    · rw [if_pos hj] at z
      exact z.elim
    · rw [if_neg hj] at z
      exact ⟨z, hj⟩
  refine ⟨v, fun j => if j = i then fun _ => False else As j, fun b => As i b ∨ B b, ev, x.hb, x.fh, x.fm, x.fmF, fun b o q j z => x.fmA b o q j (sub j b z).1, fun b o q z => z.elim (x.fmA b o q i) (x.fmB b o q), fun j t' q => ?_, .cons hv x.tm (x.dB i) (fun _ z => .inl z) (fun _ z => .inr z),
    fun j k hjk b z w => x.dj j k hjk b (sub j b z).1 (sub k b w).1, fun j b z w => ?_, fun j b z => x.fA j b (sub j b z).1, fun b z => z.elim (x.fA i b) (x.fB b), x.pn, by rw [List.length_set]; exact x.len⟩
  · by_cases hj : j = i
    · subst hj
      rw [List.getElem?_set_self (List.getElem?_eq_some_iff.mp hi).1] at q
      cases q
    · rw [List.getElem?_set_ne (Ne.symm hj)] at q
      obtain ⟨v, e1, h⟩ := x.sl j t' q
      refine ⟨v, e1, ?_⟩
      rw [if_neg hj]
      exact h
  · obtain ⟨z, hj⟩ := sub j b z
    exact w.elim (x.dj j i hj b z) (x.dB j b z)
/-- a slot is forgotten -/
theorem EnvX.forget (x : EnvX K P G ts σ vs H F As B) {G' : Gm} (hl : G'.length = G.length) (h : ∀ (i : Nat) (t : T), G'[i]? = some (some t) → G[i]? = some (some t)) : EnvX K P G' ts σ vs H F As B :=
  ⟨x.hb, x.fh, x.fm, x.fmF, x.fmA, x.fmB, fun i t q => x.sl i t (h i t q), x.tm, x.dj, x.dB, x.fA, x.fB, x.pn, hl.trans x.len⟩
/-- the owned thing in a slot is changed: at the address of its own -/
theorem EnvX.change {i : Nat} {t t' : T} {v : V} {H' : Hp} {ts' : List T} {vs' : List V} {A1 B' : ASet} (x : EnvX K P G ts σ vs H F As B) (hi : G[i]? = some (some t)) (ev : σ[i]? = some (some v))
    (hk : ∀ b, ¬ As i b → H' b = H b) (ht : TR K F H' t' v A1) (hA : ∀ b, A1 b → As i b ∨ B b) (hts : TRs K F H ts' vs' B') (hB : ∀ b, B' b → B b) (hd : ∀ b, A1 b → ¬ B' b) (live : ∀ b, As i b → H' b ≠ none) :
    ∃ As', EnvX K P (G.set i (some t')) ts' σ vs' H' F As' B' := by
  have key : ∀ j b, (if j = i then A1 else As j) b → (j = i ∧ A1 b) ∨ (j ≠ i ∧ As j b) := fun j b z => by
    by_cases hj : j = i
    · rw [if_pos hj] at z
      exact .inl ⟨hj, z⟩
    · rw [if_neg hj] at z
      exact .inr ⟨hj, z⟩
  have off : ∀ b, (∃ o, F b = some o) → ¬ As i b := fun b ⟨o, q⟩ z => by
    rw [(x.fA i b z).1] at q
    cases q
  have nB : ∀ b, B b → ¬ As i b := fun b q z => x.dB i b z q
  refine ⟨fun j => if j = i then A1 else As j, x.hb, fun b o q => (hk b (off b ⟨o, q⟩)).trans (x.fh b o q), fun b o q => (hk b (x.fmA b o q i)).trans (x.fm b o q), x.fmF, fun b o q j z => ?_, fun b o q z => x.fmB b o q (hB b z), fun j t2 q => ?_, hts.frame (Same.refl F) (fun b z => hk b (nB b (hB b z))) fun b z => (x.fB b (hB b z)).1,
    fun j k hjk b z w => ?_, fun j b z w => ?_, fun j b z => ?_, fun b q => ?_, x.pn, by rw [List.length_set]; exact x.len⟩
  · rcases key j b z with ⟨_, z⟩ | ⟨_, z⟩
    · exact (hA b z).elim (x.fmA b o q i) (x.fmB b o q)
    · exact x.fmA b o q j z
  · by_cases hj : j = i
    · subst hj
      rw [List.getElem?_set_self (List.getElem?_eq_some_iff.mp hi).1] at q
      cases q
      exact ⟨v, ev, by rw [if_pos rfl]; exact ht⟩
    · rw [List.getElem?_set_ne (Ne.symm hj)] at q
      obtain ⟨v, e1, h⟩ := x.sl j t2 q
      refine ⟨v, e1, ?_⟩
      rw [if_neg hj]
      exact h.frame (Same.refl F) (fun b z => hk b fun w => x.dj j i hj b z w) fun b z => (x.fA j b z).1
  · rcases key j b z with ⟨e1, z⟩ | ⟨e1, z⟩ <;> rcases key k b w with ⟨e2, w⟩ | ⟨e2, w⟩
    · exact hjk (e1.trans e2.symm)
    · exact (hA b z).elim (fun z => x.dj k i e2 b w z) (x.dB k b w)
    · exact (hA b w).elim (fun w => x.dj j i e1 b z w) (x.dB j b z)
    · exact x.dj j k hjk b z w
  · rcases key j b z with ⟨_, z⟩ | ⟨_, z⟩
    · exact hd b z w
    · exact x.dB j b z (hB b w)
  · rcases key j b z with ⟨_, z⟩ | ⟨hj, z⟩
    · rcases hA b z with z | z
      · exact ⟨(x.fA i b z).1, live b z⟩
      · exact ⟨(x.fB b z).1, by rw [hk b (nB b z)]; exact (x.fB b z).2⟩
    · exact ⟨(x.fA j b z).1, by rw [hk b fun w => x.dj j i hj b z w]; exact (x.fA j b z).2⟩
  · exact ⟨(x.fB b (hB b q)).1, by rw [hk b (nB b (hB b q))]; exact (x.fB b (hB b q)).2⟩
end
end DL
end
section
set_option autoImplicit false
/-! DL2: the judgements over data; operators. -/
namespace DL
open PySem PySem.Spec PyProof.Rows L2

inductive Tm where
  | t (x : T)
  | al (i : Nat)
abbrev pushT : Tm → List T → List T
  | .t x, ts => x :: ts
  | .al _, ts => ts
abbrev pushV : Tm → V → List V → List V
  | .t _, v, vs => v :: vs
  | .al _, _, vs => vs
def AlOk (σ : L2.St) : Tm → V → Prop
  | .t _, _ => True
  | .al i, v => σ[i]? = some (some v)

abbrev WE := Gm → (Tm → Gm → Prop) → Prop
abbrev WT := Gm → (Bool → Gm → Prop) → Prop
abbrev WA := Gm → (List Tm → Gm → Prop) → Prop

def RD (K : PySem.W.Frag) (t : TE) (w : WE) : Prop := ∀ (P : Par) (G : Gm) (ts : List T) (σ : L2.St) (vs : List V) (H : Hp) (k : Tm → Gm → Prop) (Q : VK), Env K P G ts σ vs H → w G k →
  (∀ x G' v H', Env K P G' (pushT x ts) σ (pushV x v vs) H' → AlOk σ x v → k x G' → Q v H') → t σ H Q
def RDT (K : PySem.W.Frag) (t : TT) (w : WT) : Prop := ∀ (P : Par) (G : Gm) (ts : List T) (σ : L2.St) (vs : List V) (H : Hp) (k : Bool → Gm → Prop) (Q : Bool → Hp → Prop), Env K P G ts σ vs H → w G k →
  (∀ x G' H', Env K P G' ts σ vs H' → k x G' → Q x H') → t σ H Q
structure PD (X : Cx) (e : Expr) (t : TE) (w : WE) : Prop where
  pe : PE X e t
  rd : RD X.K t w
structure PTD (X : Cx) (e : Expr) (t : TT) (w : WT) : Prop where
  pe : PT X e t
  rd : RDT X.K t w

/-! ### data by value -/
def dsOf : List T → Option (List PyData)
  | [] => some []
  | .d x :: ts => match dsOf ts with
    | some xs => some (x :: xs)
    | none => none
  | _ :: _ => none
theorem dsOf_map (ds : List PyData) : dsOf (ds.map T.d) = some ds := by
  induction ds with
  | nil => rfl
  | cons d ds ih => rw [List.map_cons, dsOf, ih]
theorem dsOf_some : ∀ {ts : List T} {ds : List PyData}, dsOf ts = some ds → ts = ds.map T.d
  | [], _, h => by cases h; rfl
  | .d x :: ts, ds, h => by
    rw [dsOf] at h
    cases q : dsOf ts with
    | none => rw [q] at h; cases h
    | some xs => rw [q] at h; cases h; rw [dsOf_some q]; rfl
  | .lst _ :: _, _, h => by rw [dsOf] at h; cases h; exact fun _ q => nomatch q
  | .ro _ :: _, _, h => by rw [dsOf] at h; cases h; exact fun _ q => nomatch q
  | .at _ _ :: _, _, h => by rw [dsOf] at h; cases h; exact fun _ q => nomatch q
  | .obj _ _ _ :: _, _, h => by rw [dsOf] at h; cases h; exact fun _ q => nomatch q
  | .dk _ _ :: _, _, h => by rw [dsOf] at h; cases h; exact fun _ q => nomatch q
def T.flat : T → Option PyData
  | .d x => some x
  | .lst ts => match dsOf ts with
    | some ds => some (.list ds)
    | none => none
  | _ => none
def datOf (G : Gm) : Tm → Option PyData
  | .t y => y.toD
  | .al i => match G[i]? with
    | some (some t) => t.flat
    | _ => none
def datsOf (G : Gm) : List Tm → Option (List PyData)
  | [] => some []
  | x :: xs => match datOf G x, datsOf G xs with
    | some d, some ds => some (d :: ds)
    | _, _ => none

inductive DatR (K : PySem.W.Frag) (F H : Hp) : V → PyData → Prop
  | sc {v : V} {d : PyData} : Dq K F v d → DatR K F H v d
  | ls {a : Addr} {us : List V} {ds : List PyData} : H a = some (.lst us) → DqAll K F us ds → DatR K F H (.ref a) (.list ds)
inductive DatRs (K : PySem.W.Frag) (F H : Hp) : List V → List PyData → Prop
  | nil : DatRs K F H [] []
  | cons {v : V} {d : PyData} {vs : List V} {ds : List PyData} : DatR K F H v d → DatRs K F H vs ds → DatRs K F H (v :: vs) (d :: ds)
section
variable {K : PySem.W.Frag} {F H F' H' : Hp} {v : V}
theorem DatR.int {i : Int} (h : DatR K F H v (.int i)) : v = .int i := by
  cases h with
  | sc h => exact dp_scalar_int h
theorem DatR.bl {i : Bool} (h : DatR K F H v (.bool i)) : v = .bl i := by
  cases h with
  | sc h => exact dp_scalar_bl h
theorem DatR.str {i : Str} (h : DatR K F H v (.str i)) : v = .str i := by
  cases h with
  | sc h => exact dp_scalar_str h
theorem DatR.non (h : DatR K F H v .none) : v = .non := by
  cases h with
  | sc h => exact dp_scalar_non h
theorem DatR.list {ds : List PyData} (e : Same F H) (h : DatR K F H v (.list ds)) : ∃ a us, v = .ref a ∧ H a = some (.lst us) ∧ DqAll K F us ds := by
  cases h with
  | sc h =>
    cases h with
    | lst h1 h2 => exact ⟨_, _, rfl, e _ _ h1, h2⟩
  | ls h1 h2 => exact ⟨_, _, rfl, h1, h2⟩
theorem DatR.tup {ds : List PyData} (e : Same F H) (h : DatR K F H v (.tuple ds)) : ∃ a us, v = .ref a ∧ SqT K H a us ∧ DqAll K F us ds := by
  cases h with
  | sc h =>
    cases h with
    | tup h1 h2 => exact ⟨_, _, rfl, sqT_mono h1 e, h2⟩
theorem DatR.dp {d : PyData} (e : Same F H) (h : DatR K F H v d) : Dq K H v d := by
  cases h with
  | sc h => exact dp_mono e h
  | ls h1 h2 => exact .lst h1 (dpa_mono e h2)
theorem DatR.mono {d : PyData} (e : Same F F') (e' : Same H H') (h : DatR K F H v d) : DatR K F' H' v d := by
  cases h with
  | sc h => exact .sc (dp_mono e h)
  | ls h1 h2 => exact .ls (e' _ _ h1) (dpa_mono e h2)
theorem DatRs.mono (e : Same F F') (e' : Same H H') : ∀ {vs : List V} {ds : List PyData}, DatRs K F H vs ds → DatRs K F' H' vs ds
  | _, _, .nil => .nil
  | _, _, .cons h t => .cons (h.mono e e') (DatRs.mono e e' t)
end

section
variable {K : PySem.W.Frag} {P : Par} {G : Gm} {ts : List T} {σ : L2.St} {vs : List V} {H F : Hp} {As : Nat → ASet} {B : ASet}
/-- the topmost temporary is read by value and let go -/
theorem EnvX.dat {y : Tm} {v : V} {d : PyData} (x : EnvX K P G (pushT y ts) σ (pushV y v vs) H F As B) (ho : AlOk σ y v) (hd : datOf G y = some d) :
    ∃ F' B', EnvX K P G ts σ vs H F' As B' ∧ Same F F' ∧ DatR K F' H v d := by
  cases y with
  | t y =>
    obtain ⟨F', B', x', e⟩ := x.freezeT hd
    exact ⟨F', B', x'.pop rfl rfl, e, .sc x'.head⟩
  | al i =>
    refine ⟨F, B, x, Same.refl F, ?_⟩
    have hd : (match G[i]? with
      | some (some t) => t.flat
      | _ => none) = some d := hd
    have ho : σ[i]? = some (some v) := ho
    split at hd
    · rename_i t e
      obtain ⟨v', e1, h⟩ := x.sl i t e
      rw [ho] at e1
      cases e1
      cases h with
      | d h =>
        cases hd
        exact .sc h
      | lst h1 h2 h3 h4 h5 h6 =>
        rw [T.flat] at hd
        split at hd
        · rename_i ds q
          cases hd
          rw [dsOf_some q] at h3
          exact .ls h1 h3.toD
        · cases hd
      | ro => cases hd
      | «at» => cases hd
      | obj => cases hd
      | dk => cases hd
    · cases hd
def pushTs : List Tm → List T → List T
  | [], ts => ts
  | x :: xs, ts => pushTs xs (pushT x ts)
def pushVs : List Tm → List V → List V → List V
  | x :: xs, v :: us, vs => pushVs xs us (pushV x v vs)
  | _, _, vs => vs
def AlOks (σ : L2.St) : List Tm → List V → Prop
  | [], [] => True
  | x :: xs, v :: us => AlOk σ x v ∧ AlOks σ xs us
  | _, _ => False
theorem EnvX.dats : ∀ {xs : List Tm} {us : List V} {ds : List PyData} {ts : List T} {vs : List V} {F : Hp} {B : ASet}, EnvX K P G (pushTs xs ts) σ (pushVs xs us vs) H F As B → AlOks σ xs us → datsOf G xs = some ds →
    ∃ F' B', EnvX K P G ts σ vs H F' As B' ∧ Same F F' ∧ DatRs K F' H us ds
  | [], [], ds, ts, vs, F, B, x, _, e => by
    cases e
    exact ⟨F, B, x, Same.refl F, .nil⟩
  | [], _ :: _, _, _, _, _, _, _, h, _ => h.elim
  | _ :: _, [], _, _, _, _, _, _, h, _ => h.elim
  | y :: xs, v :: us, ds, ts, vs, F, B, x, h, e => by
    rw [datsOf] at e
    cases e1 : datOf G y with
    | none => rw [e1] at e; cases e
    | some d =>
      cases e2 : datsOf G xs with
      | none => rw [e1, e2] at e; cases e
      | some ds' =>
        rw [e1, e2] at e
        cases e
        obtain ⟨F1, B1, x1, s1, r1⟩ := EnvX.dats (xs := xs) (us := us) x h.2 e2
        obtain ⟨F2, B2, x2, s2, r2⟩ := x1.dat h.1 e1
        exact ⟨F2, B2, x2, s1.trans s2, .cons r2 (r1.mono s2 (Same.refl H))⟩
end

/-! ### rules over data: one, two, many -/
abbrev F1 := PyData → (T → Prop) → Prop
abbrev F2 := PyData → PyData → (T → Prop) → Prop
abbrev Fn := List PyData → (T → Prop) → Prop
def RP1 (K : PySem.W.Frag) (r : V → Hp → VK → Prop) (f : F1) : Prop := ∀ (P : Par) (G : Gm) (ts : List T) (σ : L2.St) (vs : List V) (H F : Hp) (As : Nat → ASet) (B : ASet) (v : V) (a : PyData) (k : T → Prop) (Q : VK),
  EnvX K P G ts σ vs H F As B → DatR K F H v a → f a k → (∀ r v H', Env K P G (r :: ts) σ (v :: vs) H' → k r → Q v H') → r v H Q
def RP2 (K : PySem.W.Frag) (r : R2) (f : F2) : Prop := ∀ (P : Par) (G : Gm) (ts : List T) (σ : L2.St) (vs : List V) (H F : Hp) (As : Nat → ASet) (B : ASet) (v u : V) (a b : PyData) (k : T → Prop) (Q : VK),
  EnvX K P G ts σ vs H F As B → DatR K F H v a → DatR K F H u b → f a b k → (∀ r v H', Env K P G (r :: ts) σ (v :: vs) H' → k r → Q v H') → r v u H Q
def RPn (K : PySem.W.Frag) (r : List V → Hp → VK → Prop) (f : Fn) : Prop := ∀ (P : Par) (G : Gm) (ts : List T) (σ : L2.St) (vs : List V) (H F : Hp) (As : Nat → ASet) (B : ASet) (us : List V) (ds : List PyData) (k : T → Prop) (Q : VK),
  EnvX K P G ts σ vs H F As B → DatRs K F H us ds → f ds k → (∀ r v H', Env K P G (r :: ts) σ (v :: vs) H' → k r → Q v H') → r us H Q

def w1 (wa : WE) (f : F1) : WE := fun G k => wa G fun x G1 => match datOf G1 x with
  | some a => f a fun r => k (.t r) G1
  | none => False
def w2 (wa wb : WE) (f : F2) : WE := fun G k => wa G fun x G1 => wb G1 fun y G2 => match datOf G2 x, datOf G2 y with
  | some a, some b => f a b fun r => k (.t r) G2
  | _, _ => False
def wn (wa : WA) (f : Fn) : WE := fun G k => wa G fun xs G1 => match datsOf G1 xs with
  | some ds => f ds fun r => k (.t r) G1
  | none => False
def wNil : WA := fun G k => k [] G
def wCons (we : WE) (wa : WA) : WA := fun G k => we G fun x G1 => wa G1 fun xs G2 => k (x :: xs) G2

def RDA (K : PySem.W.Frag) (t : TA) (w : WA) : Prop := ∀ (P : Par) (G : Gm) (ts : List T) (σ : L2.St) (vs : List V) (H : Hp) (k : List Tm → Gm → Prop) (Q : List V → Hp → Prop), Env K P G ts σ vs H → w G k →
  (∀ xs G' us H', Env K P G' (pushTs xs ts) σ (pushVs xs us vs) H' → AlOks σ xs us → k xs G' → Q us H') → t σ H Q
structure PAD (X : Cx) (es : List Expr) (t : TA) (w : WA) : Prop where
  pe : PA X es t
  rd : RDA X.K t w

section
variable {K : PySem.W.Frag} {ta tb : TE} {wa wb : WE}
theorem rd_un {r : V → Hp → VK → Prop} {f : F1} (h : RP1 K r f) (ha : RD K ta wa) : RD K (tUn r ta) (w1 wa f) := by
  intro P G ts σ vs H k Q x hw hq
  refine ha P G ts σ vs H _ _ x hw fun y G1 v H1 x1 ho hk => ?_
  have hk : (match datOf G1 y with
    | some a => f a fun r => k (.t r) G1
    | none => False) := hk
  split at hk
  · rename_i a e
    obtain ⟨F, As, B, x1⟩ := x1
    obtain ⟨F', B', x2, s2, r2⟩ := x1.dat ho e
    exact h P G1 ts σ vs H1 F' As B' v a _ Q x2 r2 hk fun r v H' x3 q => hq (.t r) G1 v H' x3 trivial q
  · exact hk.elim
theorem rd_op {r : R2} {f : F2} (h : RP2 K r f) (ha : RD K ta wa) (hb : RD K tb wb) : RD K (tOp r ta tb) (w2 wa wb f) := by
  intro P G ts σ vs H k Q x hw hq
  refine ha P G ts σ vs H _ _ x hw fun y G1 v H1 x1 ho1 hk => ?_
  refine hb P G1 _ σ _ H1 _ _ x1 hk fun z G2 u H2 x2 ho2 hk => ?_
  have hk : (match datOf G2 y, datOf G2 z with
    | some a, some b => f a b fun r => k (.t r) G2
    | _, _ => False) := hk
  split at hk
  · rename_i a b e1 e2
    obtain ⟨F, As, B, x2⟩ := x2
    obtain ⟨F', B', x3, s3, r3⟩ := x2.dat ho2 e2
    obtain ⟨F'', B'', x4, s4, r4⟩ := x3.dat ho1 e1
    exact h P G2 ts σ vs H2 F'' As B'' v u a b _ Q x4 r4 (r3.mono s4 (Same.refl H2)) hk fun r v H' x3 q => hq (.t r) G2 v H' x3 trivial q
  · exact hk.elim
theorem rd_nil : RDA K tNil wNil := fun P G ts σ vs H k Q x hw hq => hq [] G [] H x trivial hw
theorem rd_cons {t : TA} {w : WA} (ha : RD K ta wa) (hr : RDA K t w) : RDA K (tCons ta t) (wCons wa w) := by
  intro P G ts σ vs H k Q x hw hq
  refine ha P G ts σ vs H _ _ x hw fun y G1 v H1 x1 ho1 hk => ?_
  refine hr P G1 _ σ _ H1 _ _ x1 hk fun xs G2 us H2 x2 ho2 hk => ?_
  exact hq (y :: xs) G2 (v :: us) H2 x2 ⟨ho1, ho2⟩ hk
theorem rd_cb {r : List V → Hp → VK → Prop} {t : TA} {w : WA} {f : Fn} (h : RPn K r f) (ha : RDA K t w) : RD K (tCB r t) (wn w f) := by
  intro P G ts σ vs H k Q x hw hq
  refine ha P G ts σ vs H _ _ x hw fun xs G1 us H1 x1 ho hk => ?_
  have hk : (match datsOf G1 xs with
    | some a => f a fun r => k (.t r) G1
    | none => False) := hk
  split at hk
  · rename_i ds e
    obtain ⟨F, As, B, x1⟩ := x1
    obtain ⟨F', B', x2, s2, r2⟩ := x1.dats ho e
    exact h P G1 ts σ vs H1 F' As B' us ds _ Q x2 r2 hk fun r v H' x3 q => hq (.t r) G1 v H' x3 trivial q
  · exact hk.elim
end

section
variable {X : Cx} {e a b : Expr} {es : List Expr} {te ta tb : TE} {we wa wb : WE} {t : TA} {w : WA} {pos : Pos}
theorem pd_un {op : UnaryOp} {r : V → Hp → VK → Prop} {f : F1} (ho : UnR X (unaryOp op) r) (h : RP1 X.K r f) (ha : PD X a ta wa) : PD X (.UnaryOp op a pos) (tUn r ta) (w1 wa f) := ⟨pe_un ho ha.pe, rd_un h ha.rd⟩
theorem pd_op {op : Operator} {r : R2} {f : F2} (ho : OpR X (binaryOp op) r) (h : RP2 X.K r f) (ha : PD X a ta wa) (hb : PD X b tb wb) : PD X (.BinOp a op b pos) (tOp r ta tb) (w2 wa wb f) := ⟨pe_op ho ha.pe hb.pe, rd_op h ha.rd hb.rd⟩
theorem pad_nil : PAD X [] tNil wNil := ⟨pa_nil, rd_nil⟩
theorem pad_cons (ha : PD X e te we) (hr : PAD X es t w) (hs : starEach (e :: es) X.env = (false, eval e X.env) :: starEach es X.env := by rfl) : PAD X (e :: es) (tCons te t) (wCons we w) := ⟨pa_cons ha.pe hr.pe hs, rd_cons ha.rd hr.rd⟩
theorem pd_callB {id : String} {x : Str} {p : Pos} {r : List V → Hp → VK → Prop} {f : Fn} (hc : CallR X (.builtin id) r) (h : RPn X.K r f) (hg : Gl X x) (hm : X.mg x = none) (hv : bootBuiltins x = some (.builtin id)) (ha : PAD X (e :: es) t w) (hn : x ≠ "__name__" := by decide) (hdb : (x == ("__debug__" : Str)) = false := by decide)
    (he : starEach (e :: es) X.env = (false, eval e X.env) :: starEach es X.env := by rfl) (hpl : (backTo pos (starEach es X.env)).any (·.1) = false := by rfl) : PD X (.Call (.Name x p) (e :: es) [] pos) (tCB r t) (wn w f) :=
  ⟨pe_callB hc hg hm hv ha.pe hn hdb he hpl, rd_cb h ha.rd⟩
theorem pd_callTy {T' : String} {x : Str} {p : Pos} {r : List V → Hp → VK → Prop} {f : Fn} (hc : CallR X (.type T') r) (h : RPn X.K r f) (hg : Gl X x) (hm : X.mg x = none) (hv : bootBuiltins x = some (.type T')) (ha : PAD X (e :: es) t w) (hn : x ≠ "__name__" := by decide) (hdb : (x == ("__debug__" : Str)) = false := by decide)
    (he : starEach (e :: es) X.env = (false, eval e X.env) :: starEach es X.env := by rfl) (hpl : (backTo pos (starEach es X.env)).any (·.1) = false := by rfl) : PD X (.Call (.Name x p) (e :: es) [] pos) (tCB r t) (wn w f) :=
  ⟨pe_callTy hc hg hm hv ha.pe hn hdb he hpl, rd_cb h ha.rd⟩
theorem pd_cmp {op : CmpOp} {r : R2} {f : F2} (ho : OpR X (compareOp op) r) (h : RP2 X.K r f) (ha : PD X a ta wa) (hb : PD X b tb wb) (hm : behindInMarks op b = false) : PD X (.Compare a [op] [b] pos) (tOp r ta tb) (w2 wa wb f) := ⟨pe_cmpR ho ha.pe hb.pe hm, rd_op h ha.rd hb.rd⟩
theorem pd_ix {r : R2} {f : F2} (hr : IxR X r) (h : RP2 X.K r f) (ha : PD X a ta wa) (hb : PD X b tb wb) (hs : PlainIx b) : PD X (.Subscript a b pos) (tOp r ta tb) (w2 wa wb f) := ⟨pe_ix hr ha.pe hb.pe hs, rd_op h ha.rd hb.rd⟩

/-! names, constants -/
def varK (i : Nat) (k : Tm → Prop) : Option (Option T) → Prop
  | some (some (.d x)) => k (.t (.d x))
  | some (some (.lst _)) => k (.al i)
  | some (some (.ro _)) => k (.al i)
  | some (some (.at _ _)) => k (.al i)
  | some (some (.obj _ _ _)) => k (.al i)
  | some (some (.dk _ _)) => k (.al i)
  | _ => False
def wVar (i : Nat) : WE := fun G k => varK i (fun x => k x G) G[i]?
theorem rd_var {K : PySem.W.Frag} {i : Nat} : RD K (tVar i) (wVar i) := by
  intro P G ts σ vs H k Q x hw hq
  obtain ⟨F, As, B, x⟩ := x
  have al : ∀ t, G[i]? = some (some t) → k (.al i) G → tVar i σ H Q := fun t e hk => by
    obtain ⟨v, e1, h⟩ := x.sl i t e
    exact ⟨v, e1, hq (.al i) G v H ⟨F, As, B, x⟩ e1 hk⟩
  have hw : varK i (fun x => k x G) G[i]? := hw
  generalize e : G[i]? = o at hw
  match o, hw with
  | some (some (.d y)), hw =>
    obtain ⟨v, e1, h⟩ := x.sl i _ e
    cases h with
    | d h => exact ⟨v, e1, hq (.t (.d y)) G v H ⟨F, As, B, x.push h⟩ trivial hw⟩
  | some (some (.lst _)), hw => exact al _ e hw
  | some (some (.ro _)), hw => exact al _ e hw
  | some (some (.at _ _)), hw => exact al _ e hw
  | some (some (.obj _ _ _)), hw => exact al _ e hw
  | some (some (.dk _ _)), hw => exact al _ e hw
def wC (d : PyData) : WE := fun G k => k (.t (.d d)) G
theorem rd_c {K : PySem.W.Frag} {v : V} {d : PyData} (h : ∀ F, Dq K F v d) : RD K (tC v) (wC d) := fun P G ts σ vs H k Q x hw hq => hq (.t (.d d)) G v H (x.push h) trivial hw
theorem pd_var {i : Nat} {x : Str} (hN : X.N[i]? = some x) (hv : Vis X.env.scope x) (hd : (x == ("__debug__" : Str)) = false := by decide) (hcd : (x == ("__classdict__" : Str)) = false := by decide) : PD X (.Name x pos) (tVar i) (wVar i) := ⟨pe_var hN hv hd hcd, rd_var⟩
theorem pd_int {i : Int} {j : Nat} : PD X (.Constant (.int i) j pos) (tC (.int i)) (wC (.int i)) := ⟨pe_int, rd_c fun _ => .int i⟩
theorem pd_bl {i : Bool} {j : Nat} : PD X (.Constant (.bool i) j pos) (tC (.bl i)) (wC (.bool i)) := ⟨pe_bl, rd_c fun _ => .bl i⟩
theorem pd_str {i : Str} {j : Nat} : PD X (.Constant (.str i) j pos) (tC (.str i)) (wC (.str i)) := ⟨pe_str, rd_c fun _ => .str i⟩
theorem pd_non {j : Nat} : PD X (.Constant .none j pos) (tC .non) (wC .none) := ⟨pe_non, rd_c fun _ => .non⟩

/-! tests -/
def wTest (w : WE) : WT := fun G k => w G fun x G1 => match x with
  | .t (.d (.bool b)) => k b G1
  | _ => False
theorem rdt_test {K : PySem.W.Frag} (h : RD K te we) : RDT K (tTest te) (wTest we) := by
  intro P G ts σ vs H k Q x hw hq
  refine h P G ts σ vs H _ _ x hw fun y G1 v H1 x1 ho hk => ?_
  match y, hk with
  | .t (.d (.bool b)), hk =>
    cases Env.bl x1
    exact ⟨b, rfl, hq b G1 H1 x1.pop hk⟩
theorem ptd_cmp {op : CmpOp} {r : R2} {f : F2} (ho : OpR X (compareOp op) r) (h : RP2 X.K r f) (ha : PD X a ta wa) (hb : PD X b tb wb) (hm : behindInMarks op b = false) : PTD X (.Compare a [op] [b] pos) (tTest (tOp r ta tb)) (wTest (w2 wa wb f)) :=
  ⟨pt_cmpR ho ha.pe hb.pe hm, rdt_test (rd_op h ha.rd hb.rd)⟩
theorem ptd_val (h : PD X e te we) (he : ∀ whole, isTrue e X.env whole = (do let v ← whole; standAt e.pos; holding [v] (truthy v)) := by intro _; rfl) : PTD X e (tB te) (wTest we) := ⟨pt_val h.pe he, rdt_test h.rd⟩
def wAndT (a b : WT) : WT := fun G k => a G fun c G1 => if c = true then b G1 k else k false G1
def wOrT (a b : WT) : WT := fun G k => a G fun c G1 => if c = true then k true G1 else b G1 k
def wNotT (a : WT) : WT := fun G k => a G fun c G1 => k (!c) G1
section
variable {K : PySem.W.Frag} {tA tB' : TT} {wA wB : WT}
theorem rdt_and (h : RDT K tA wA) (h' : RDT K tB' wB) : RDT K (tAnd tA tB') (wAndT wA wB) := by
  intro P G ts σ vs H k Q x hw hq
  refine h P G ts σ vs H _ _ x hw fun c G1 H1 x1 hk => ?_
  cases c with
  | true =>
    rw [if_pos rfl] at hk ⊢
    exact h' P G1 ts σ vs H1 k Q x1 hk hq
  | false =>
    rw [if_neg Bool.false_ne_true] at hk ⊢
    exact hq false G1 H1 x1 hk
theorem rdt_or (h : RDT K tA wA) (h' : RDT K tB' wB) : RDT K (tOr tA tB') (wOrT wA wB) := by
  intro P G ts σ vs H k Q x hw hq
  refine h P G ts σ vs H _ _ x hw fun c G1 H1 x1 hk => ?_
  cases c with
  | false =>
    rw [if_neg Bool.false_ne_true] at hk ⊢
    exact h' P G1 ts σ vs H1 k Q x1 hk hq
  | true =>
    rw [if_pos rfl] at hk ⊢
    exact hq true G1 H1 x1 hk
theorem rdt_not (h : RDT K tA wA) : RDT K (tNot tA) (wNotT wA) := fun P G ts σ vs H k Q x hw hq => h P G ts σ vs H _ _ x hw fun c G1 H1 x1 hk => hq (!c) G1 H1 x1 hk
end
structure PWD (X : Cx) (e : Expr) (t : TT) (w : WT) : Prop where
  pe : PW X e t
  rd : RDT X.K t w
theorem PWD.pt {tA : TT} {wA : WT} (h : PWD X e tA wA) : PTD X e tA wA := ⟨h.pe.pt, h.rd⟩
variable {tA tB' : TT} {wA wB : WT} {rest : List Expr}
theorem pwd_and1 (h : PTD X a tA wA) : PWD X (.BoolOp .And [a] pos) tA wA := ⟨pw_and1 h.pe, h.rd⟩
theorem pwd_or1 (h : PTD X a tA wA) : PWD X (.BoolOp .Or [a] pos) tA wA := ⟨pw_or1 h.pe, h.rd⟩
theorem pwd_and (h : PTD X a tA wA) (h' : PWD X (.BoolOp .And (b :: rest) pos) tB' wB) : PWD X (.BoolOp .And (a :: b :: rest) pos) (tAnd tA tB') (wAndT wA wB) := ⟨pw_and h.pe h'.pe, rdt_and h.rd h'.rd⟩
theorem pwd_or (h : PTD X a tA wA) (h' : PWD X (.BoolOp .Or (b :: rest) pos) tB' wB) : PWD X (.BoolOp .Or (a :: b :: rest) pos) (tOr tA tB') (wOrT wA wB) := ⟨pw_or h.pe h'.pe, rdt_or h.rd h'.rd⟩
theorem ptd_not (h : PTD X a tA wA) : PTD X (.UnaryOp .Not a pos) (tNot tA) (wNotT wA) := ⟨pt_not h.pe, rdt_not h.rd⟩
def wIfE (c : WT) (a b : WE) : WE := fun G k => c G fun v G1 => if v = true then a G1 k else b G1 k
theorem pd_ifExp {c : Expr} (hc : PTD X c tA wA) (ha : PD X a ta wa) (hb : PD X b tb wb) : PD X (.IfExp c a b pos) (tIf tA ta tb) (wIfE wA wa wb) := by
  refine ⟨pe_ifExp hc.pe ha.pe hb.pe, ?_⟩
  intro P G ts σ vs H k Q x hw hq
  refine hc.rd P G ts σ vs H _ _ x hw fun v G1 H1 x1 hk => ?_
  cases v with
  | true =>
    rw [if_pos rfl] at hk ⊢
    exact ha.rd P G1 ts σ vs H1 k Q x1 hk hq
  | false =>
    rw [if_neg Bool.false_ne_true] at hk ⊢
    exact hb.rd P G1 ts σ vs H1 k Q x1 hk hq
/-- and, or as values of truths -/
def wAndV (a b : WE) : WE := fun G k => a G fun x G1 => match x with
  | .t (.d (.bool true)) => b G1 k
  | .t (.d (.bool false)) => k (.t (.d (.bool false))) G1
  | _ => False
def wOrV (a b : WE) : WE := fun G k => a G fun x G1 => match x with
  | .t (.d (.bool false)) => b G1 k
  | .t (.d (.bool true)) => k (.t (.d (.bool true))) G1
  | _ => False
def wNotV (a : WE) : WE := fun G k => a G fun x G1 => match x with
  | .t (.d (.bool b)) => k (.t (.d (.bool (!b)))) G1
  | _ => False
theorem pd_one {op} (h : PD X a ta wa) : PD X (.BoolOp op [a] pos) ta wa := ⟨pe_one h.pe, h.rd⟩
theorem pd_and (ha : PD X a ta wa) (hb : PD X (.BoolOp .And (b :: rest) pos) tb wb) : PD X (.BoolOp .And (a :: b :: rest) pos) (tAndV ta tb) (wAndV wa wb) := by
  refine ⟨pe_and ha.pe hb.pe, ?_⟩
  intro P G ts σ vs H k Q x hw hq
  refine ha.rd P G ts σ vs H _ _ x hw fun y G1 v H1 x1 ho hk => ?_
  match y, hk with
  | .t (.d (.bool true)), hk =>
    cases Env.bl x1
    exact ⟨true, rfl, by rw [if_pos rfl]; exact hb.rd P G1 ts σ vs H1 k Q x1.pop hk hq⟩
  | .t (.d (.bool false)), hk =>
    cases Env.bl x1
    exact ⟨false, rfl, by rw [if_neg Bool.false_ne_true]; exact hq _ G1 _ H1 x1 trivial hk⟩
theorem pd_or (ha : PD X a ta wa) (hb : PD X (.BoolOp .Or (b :: rest) pos) tb wb) : PD X (.BoolOp .Or (a :: b :: rest) pos) (tOrV ta tb) (wOrV wa wb) := by
  refine ⟨pe_or ha.pe hb.pe, ?_⟩
  intro P G ts σ vs H k Q x hw hq
  refine ha.rd P G ts σ vs H _ _ x hw fun y G1 v H1 x1 ho hk => ?_
  match y, hk with
  | .t (.d (.bool false)), hk =>
    cases Env.bl x1
    exact ⟨false, rfl, by rw [if_neg Bool.false_ne_true]; exact hb.rd P G1 ts σ vs H1 k Q x1.pop hk hq⟩
  | .t (.d (.bool true)), hk =>
    cases Env.bl x1
    exact ⟨true, rfl, by rw [if_pos rfl]; exact hq _ G1 _ H1 x1 trivial hk⟩
theorem pd_not (ha : PD X a ta wa) : PD X (.UnaryOp .Not a pos) (tNotV ta) (wNotV wa) := by
  refine ⟨pe_not ha.pe, ?_⟩
  intro P G ts σ vs H k Q x hw hq
  refine ha.rd P G ts σ vs H _ _ x hw fun y G1 v H1 x1 ho hk => ?_
  match y, hk with
  | .t (.d (.bool b)), hk =>
    cases Env.bl x1
    exact ⟨b, rfl, hq (.t (.d (.bool (!b)))) G1 _ H1 (x1.pop.pushB _) trivial hk⟩
end
end DL
end
section
set_option autoImplicit false
/-! DL3: operators and built-in functions over data. -/
namespace DL
open PySem PySem.Spec PyProof.Rows L2

/-! ### lists of one kind -/
def intsD : List PyData → Option (List Int)
  | [] => some []
  | .int i :: xs => match intsD xs with
    | some ns => some (i :: ns)
    | none => none
  | _ :: _ => none
theorem intsD_map (ns : List Int) : intsD (ns.map PyData.int) = some ns := by
  induction ns with
  | nil => rfl
  | cons d ds ih => rw [List.map_cons, intsD, ih]
theorem intsD_map' {α : Type} (xs : List α) (g : α → Int) : intsD (xs.map fun x => PyData.int (g x)) = some (xs.map g) := by
  have := intsD_map (xs.map g)
  rw [List.map_map] at this
  exact this
theorem intsD_some : ∀ {ds : List PyData} {ns : List Int}, intsD ds = some ns → ds = ns.map PyData.int
  | [], _, h => by cases h; rfl
  | .int i :: xs, ns, h => by
    rw [intsD] at h
    split at h
    · rename_i ms q
      cases h
      rw [intsD_some q]
      rfl
    · cases h
  | .none :: _, _, h => by cases h
  | .bool _ :: _, _, h => by cases h
  | .str _ :: _, _, h => by cases h
  | .list _ :: _, _, h => by cases h
  | .tuple _ :: _, _, h => by cases h
  | .dict _ :: _, _, h => by cases h
def blsD : List PyData → Option (List Bool)
  | [] => some []
  | .bool i :: xs => match blsD xs with
    | some ns => some (i :: ns)
    | none => none
  | _ :: _ => none
theorem blsD_map (ns : List Bool) : blsD (ns.map PyData.bool) = some ns := by
  induction ns with
  | nil => rfl
  | cons d ds ih => rw [List.map_cons, blsD, ih]
theorem blsD_map' {α : Type} (xs : List α) (g : α → Bool) : blsD (xs.map fun x => PyData.bool (g x)) = some (xs.map g) := by
  have := blsD_map (xs.map g)
  rw [List.map_map] at this
  exact this
theorem blsD_some : ∀ {ds : List PyData} {ns : List Bool}, blsD ds = some ns → ds = ns.map PyData.bool
  | [], _, h => by cases h; rfl
  | .bool i :: xs, ns, h => by
    rw [blsD] at h
    split at h
    · rename_i ms q
      cases h
      rw [blsD_some q]
      rfl
    · cases h
  | .none :: _, _, h => by cases h
  | .int _ :: _, _, h => by cases h
  | .str _ :: _, _, h => by cases h
  | .list _ :: _, _, h => by cases h
  | .tuple _ :: _, _, h => by cases h
  | .dict _ :: _, _, h => by cases h

section
variable {K : PySem.W.Frag} {P : Par} {G : Gm} {ts : List T} {σ : L2.St} {vs : List V} {H F : Hp} {As : Nat → ASet} {B : ASet}
theorem EnvX.newTup (x : EnvX K P G ts σ vs H F As B) {p : Addr} (hp : H p = none) {us : List V} {ds : List PyData} (h : DqAll K F us ds) : Env K P G (.d (.tuple ds) :: ts) σ (.ref p :: vs) (upd H p (.tup us)) := by
  have fp : F p = none := Same.none x.fh hp
  exact ⟨_, _, _, (x.allocF hp).push (.tup (SqT.of upd_same) (dpa_mono (same_upd fp) h))⟩
theorem EnvX.newLst (x : EnvX K P G ts σ vs H F As B) {p : Addr} (hp : H p = none) {us : List V} {ds : List PyData} (h : DqAll K F us ds) : Env K P G (.lst (ds.map T.d) :: ts) σ (.ref p :: vs) (upd H p (.lst us)) := by
  have x1 : EnvX K P G (ds.map T.d ++ ts) σ (us ++ vs) H F As B := x.tmps (TRs.append (A := fun _ => False) (B := B) (TRs.ofD h) x.tm (fun _ z => z.elim) (fun _ z => z.elim) fun _ z => z)
  exact ⟨_, _, _, x1.allocL rfl rfl (by rw [List.length_map, dpa_len h]) hp⟩
theorem EnvX.env (x : EnvX K P G ts σ vs H F As B) : Env K P G ts σ vs H := ⟨F, As, B, x⟩
end

/-! ### two ints -/
def fI (g : Int → Int → PyData) : F2 := fun a b k => match a, b with
  | .int i, .int j => k (.d (g i j))
  | _, _ => False
def fIc (c : Int → Int → Prop) (g : Int → Int → PyData) : F2 := fun a b k => match a, b with
  | .int i, .int j => c i j ∧ k (.d (g i j))
  | _, _ => False
abbrev fAdd : F2 := fI fun i j => .int (i + j)
abbrev fSub : F2 := fI fun i j => .int (i - j)
abbrev fLt : F2 := fI fun i j => .bool (decide (i < j))
abbrev fLe : F2 := fI fun i j => .bool (decide (i ≤ j))
abbrev fGt : F2 := fI fun i j => .bool (decide (j < i))
abbrev fGe : F2 := fI fun i j => .bool (decide (j ≤ i))
abbrev fMul : F2 := fIc IntMulOk fun i j => .int (i * j)
abbrev fMod : F2 := fIc (fun _ j => j ≠ 0) fun i j => .int (i.fmod j)
abbrev fDiv : F2 := fIc (fun _ j => j ≠ 0) fun i j => .int (i.fdiv j)
theorem rp_I {K : PySem.W.Frag} {g' : Int → Int → V} {g : Int → Int → PyData} (h : ∀ F i j, Dq K F (g' i j) (g i j)) : RP2 K (rI0 g') (fI g) := by
  intro P G ts σ vs H F As B v u a b k Q x ra rb hf hq
  match a, b, ra, rb, hf with
  | .int i, .int j, ra, rb, hf => exact ⟨i, j, ra.int, rb.int, hq _ _ H (x.push (h F i j)).env hf⟩
theorem rp_Ic {K : PySem.W.Frag} {c : Int → Int → Prop} {g' : Int → Int → V} {g : Int → Int → PyData} (h : ∀ F i j, Dq K F (g' i j) (g i j)) : RP2 K (rI c g') (fIc c g) := by
  intro P G ts σ vs H F As B v u a b k Q x ra rb hf hq
  match a, b, ra, rb, hf with
  | .int i, .int j, ra, rb, hf => exact ⟨i, j, ra.int, rb.int, hf.1, hq _ _ H (x.push (h F i j)).env hf.2⟩
/-- a division of any size is within the model here -/
structure Big (X : Cx) : Prop where
  seer : X.base.NoSeer
  tree : X.prog.given.tree = none
  depth : X.A.depth + Builtin.pylongFrames < recursionLimit
  stk : ∃ (env : PySem.Env) (l : List PySem.Env), X.stack = env :: l ∧ env.scope.isGenerator = false ∧ env.scope.isCoroutine = false ∧ env.builtins = builtinsNs ∧ env.globals = mainGlobals
theorem Big.room {X : Cx} {pins : List (Addr × Obj)} {σ : L2.St} {H : Hp} {s : Shared} (b : Big X) (I : Inv X pins σ H s) : PySem.PylongRoom (model X.prog X.w) X.A s := by
  obtain ⟨env, l, e, h1, h2, h3, h4⟩ := b.stk
  exact PySem.PylongRoom.of I.nolimit b.depth (PySem.SeerAt.of (b.seer.keeps I.bk) b.tree (I.ok.frames.trans (by rw [e])) h1 h2 h3 h4)
theorem Big.blk {X : Cx} (b : Big X) {s : Shared} {H : Hp} {scope : Scope} {cenv : PySem.Env} {fp : List Addr} : Big (X.blk s H scope cenv fp) := ⟨b.seer, b.tree, b.depth, b.stk⟩
theorem Big.nox {X : Cx} (b : Big X) : Big X.nox := ⟨b.seer, b.tree, b.depth, b.stk⟩
section
variable {X : Cx} {K : PySem.W.Frag}
theorem op_mulB : OpR X (binaryOp .Mult) (rI IntMulOk fun i j => .int (i * j)) := opI fun _ _ _ _ _ _ _ hc q => mul_int q hc
theorem op_divB (hb : Big X) : OpR X (binaryOp .FloorDiv) (rI (fun _ j => j ≠ 0) fun i j => .int (i.fdiv j)) := by
  intro pins s σ H x y v u Q I rx ry h
  obtain ⟨i, j, rfl, rfl, hc, q⟩ := h
  obtain ⟨t, rfl⟩ := rx
  obtain ⟨t', rfl⟩ := ry
  exact floordiv_int hc ⟨.int (i.fdiv j), H, I.tok _, ⟨_, rfl⟩, q⟩ (.inr (hb.room I))
theorem rp_add : RP2 K (rI0 fun i j => .int (i + j)) fAdd := rp_I fun _ i j => .int (i + j)
theorem rp_sub : RP2 K (rI0 fun i j => .int (i - j)) fSub := rp_I fun _ i j => .int (i - j)
theorem rp_lt : RP2 K (rI0 fun i j => .bl (decide (i < j))) fLt := rp_I fun _ i j => .bl _
theorem rp_le : RP2 K (rI0 fun i j => .bl (decide (i ≤ j))) fLe := rp_I fun _ i j => .bl _
theorem rp_gt : RP2 K (rI0 fun i j => .bl (decide (j < i))) fGt := rp_I fun _ i j => .bl _
theorem rp_ge : RP2 K (rI0 fun i j => .bl (decide (j ≤ i))) fGe := rp_I fun _ i j => .bl _
theorem rp_mul : RP2 K (rI IntMulOk fun i j => .int (i * j)) fMul := rp_Ic fun _ i j => .int _
theorem rp_mod : RP2 K (rI (fun _ j => j ≠ 0) fun i j => .int (i.fmod j)) fMod := rp_Ic fun _ i j => .int _
theorem rp_div : RP2 K (rI (fun _ j => j ≠ 0) fun i j => .int (i.fdiv j)) fDiv := rp_Ic fun _ i j => .int _
/-- -i -/
def fNeg : F1 := fun a k => match a with
  | .int i => k (.d (.int (-i)))
  | _ => False
theorem rp_neg : RP1 K (rU fun i => .int (-i)) fNeg := by
  intro P G ts σ vs H F As B v a k Q x ra hf hq
  match a, ra, hf with
  | .int i, ra, hf => exact ⟨i, ra.int, hq _ _ H (x.push (.int (-i))).env hf⟩

/-! ### ==, != , is None -/
def fEq : F2 := fun a b k => match a, b with
  | .str x, .str y => k (.d (.bool (decide (x = y))))
  | a, b => SeqAt.shaped a = true ∧ SeqAt.shaped b = true ∧ k (.d (.bool (PyData.eqv a b)))
def fNe : F2 := fun a b k => match a, b with
  | .str x, .str y => k (.d (.bool (!decide (x = y))))
  | a, b => SeqAt.shaped a = true ∧ SeqAt.shaped b = true ∧ k (.d (.bool (!PyData.eqv a b)))
theorem dec_strV {x y : Str} : decide (V.str x = V.str y) = decide (x = y) := by
  by_cases h : x = y
  · subst h
    simp
  · rw [decide_eq_false h, decide_eq_false fun e => h (V.str.inj e)]
theorem rp_eq : RP2 K (fun x y H Q => rEq x y H Q ∨ rEqD K x y H Q) fEq := by
  intro P G ts σ vs H F As B v u a b k Q x ra rb hf hq
  unfold fEq at hf
  split at hf
  · rename_i p q
    have e1 := ra.str
    have e2 := rb.str
    subst e1 e2
    refine .inl ⟨rfl, ?_⟩
    rw [dec_strV]
    exact hq _ _ H (x.push (.bl _)).env hf
  · exact .inr ⟨a, b, (ra.dp x.fh).dp, (rb.dp x.fh).dp, hf.1, hf.2.1, hq _ _ H (x.push (.bl _)).env hf.2.2⟩
theorem rp_ne : RP2 K (fun x y H Q => rNe x y H Q ∨ rNeD K x y H Q) fNe := by
  intro P G ts σ vs H F As B v u a b k Q x ra rb hf hq
  unfold fNe at hf
  split at hf
  · rename_i p q
    have e1 := ra.str
    have e2 := rb.str
    subst e1 e2
    refine .inl ⟨rfl, ?_⟩
    rw [dec_strV]
    exact hq _ _ H (x.push (.bl _)).env hf
  · exact .inr ⟨a, b, (ra.dp x.fh).dp, (rb.dp x.fh).dp, hf.1, hf.2.1, hq _ _ H (x.push (.bl _)).env hf.2.2⟩
theorem op_eqB (hu : X.A.units + 64 < cLine) : OpR X (compareOp .Eq) (fun x y H Q => rEq x y H Q ∨ rEqD X.K x y H Q) := op_eq.or (op_eqD hu)
theorem op_neB (hu : X.A.units + 64 < cLine) : OpR X (compareOp .NotEq) (fun x y H Q => rNe x y H Q ∨ rNeD X.K x y H Q) := op_ne.or (op_neD hu)
def isNoneD : PyData → Bool
  | .none => true
  | _ => false
theorem isNone_of {H : Hp} {v : V} {d : PyData} (h : Dq K H v d) : decide (v = .non) = isNoneD d := by
  cases h <;> first | rfl | exact decide_eq_false (fun e => nomatch e)
def fIs : F2 := fun a b k => match b with
  | .none => k (.d (.bool (isNoneD a)))
  | _ => False
def fIsNot : F2 := fun a b k => match b with
  | .none => k (.d (.bool (!isNoneD a)))
  | _ => False
theorem rp_is : RP2 K (fun x y H Q => y = .non ∧ Q (.bl (decide (x = .non))) H) fIs := by
  intro P G ts σ vs H F As B v u a b k Q x ra rb hf hq
  match b, rb, hf with
  | .none, rb, hf => exact ⟨rb.non, by rw [isNone_of (ra.dp x.fh)]; exact hq _ _ H (x.push (.bl _)).env hf⟩
theorem rp_isnot : RP2 K (fun x y H Q => y = .non ∧ Q (.bl (!decide (x = .non))) H) fIsNot := by
  intro P G ts σ vs H F As B v u a b k Q x ra rb hf hq
  match b, rb, hf with
  | .none, rb, hf => exact ⟨rb.non, by rw [isNone_of (ra.dp x.fh)]; exact hq _ _ H (x.push (.bl _)).env hf⟩

/-! ### items, sums of lists, lists often -/
def itemsD : PyData → Option (List PyData)
  | .list ds => some ds
  | .tuple ds => some ds
  | _ => none
def fIx : F2 := fun a b k => match itemsD a, b with
  | some ds, .int i => match atI ds i with
    | some d => k (.d d)
    | none => False
  | _, _ => False
theorem atI_dq {F : Hp} {us : List V} {ds : List PyData} {i : Int} {d : PyData} (h : DqAll K F us ds) (e : atI ds i = some d) : ∃ v, atI us i = some v ∧ Dq K F v d := by
  unfold atI at e ⊢
  rw [dpa_len h]
  cases q : ixN ds.length i with
  | none => rw [q] at e; cases e
  | some j =>
    rw [q] at e
    exact dpa_get h e
theorem rp_ix : RP2 K (rIx K) fIx := by
  intro P G ts σ vs H F As B v u a b k Q x ra rb hf hq
  unfold fIx at hf
  split at hf
  · rename_i ds i e
    split at hf
    · rename_i d e2
      cases a with
      | list ds' =>
        cases e
        obtain ⟨p, us, rfl, h1, h2⟩ := ra.list x.fh
        obtain ⟨w, h3, h4⟩ := atI_dq h2 e2
        exact .inl ⟨p, us, i, w, rfl, rb.int, SqL.of h1, h3, hq _ _ H (x.push h4).env hf⟩
      | tuple ds' =>
        cases e
        obtain ⟨p, us, rfl, h1, h2⟩ := ra.tup x.fh
        obtain ⟨w, h3, h4⟩ := atI_dq h2 e2
        exact .inr (.inl ⟨p, us, i, w, rfl, rb.int, h1, h3, hq _ _ H (x.push h4).env hf⟩)
      | none => cases e
      | bool _ => cases e
      | int _ => cases e
      | str _ => cases e
      | dict _ => cases e
    · exact hf.elim
  · exact hf.elim
def fCat : F2 := fun a b k => match a, b with
  | .list xs, .list ys => xs.length + ys.length ≤ sizeLine ∧ k (.lst ((xs ++ ys).map T.d))
  | .tuple xs, .tuple ys => xs.length + ys.length ≤ sizeLine ∧ k (.d (.tuple (xs ++ ys)))
  | .int i, .int j => k (.d (.int (i + j)))
  | .str x, .str y => x.length + y.length ≤ sizeLine ∧ k (.d (.str (x ++ y)))
  | _, _ => False
def rAddA (K : PySem.W.Frag) : R2 := fun x y H Q => (rI0 fun i j => .int (i + j)) x y H Q ∨ rCat x y H Q ∨ rCatA K x y H Q ∨ (∃ i j, x = .str i ∧ y = .str j ∧ i.length + j.length ≤ sizeLine ∧ Q (.str (i ++ j)) H)
theorem op_addA : OpR X (binaryOp .Add) (rAddA X.K) := op_add.or (op_cat.or (op_catA.or op_add_str))
theorem rp_cat : RP2 K (rAddA K) fCat := by
  intro P G ts σ vs H F As B v u a b k Q x ra rb hf hq
  unfold fCat at hf
  split at hf
  · rename_i xs ys
    obtain ⟨p, us, rfl, h1, h2⟩ := ra.list x.fh
    obtain ⟨q, ws, rfl, h3, h4⟩ := rb.list x.fh
    exact .inr (.inl ⟨p, q, us, ws, rfl, rfl, h1, h3, by rw [dpa_len h2, dpa_len h4]; exact hf.1, fun r hr => hq _ _ _ (x.newLst hr (dpa_append h2 h4)) hf.2⟩)
  · rename_i xs ys
    obtain ⟨p, us, rfl, h1, h2⟩ := ra.tup x.fh
    obtain ⟨q, ws, rfl, h3, h4⟩ := rb.tup x.fh
    have h5 := dpa_append h2 h4
    have hp := (ra.dp x.fh).dp
    refine .inr (.inr (.inl ⟨p, q, us, ws, rfl, rfl, h1, h3, by rw [dpa_len h2, dpa_len h4]; exact hf.1, fun e => ?_, fun _ e => ?_, fun _ _ r hr => hq _ _ _ (x.newTup hr h5) hf.2⟩))
    · subst e
      cases h2
      cases rb with
      | sc rb => exact hq _ _ H (x.push rb).env hf.2
    · subst e
      cases h4
      have e3 : xs ++ ([] : List PyData) = xs := List.append_nil xs
      rw [e3] at hf
      cases ra with
      | sc ra => exact hq _ _ H (x.push ra).env hf.2
  · rename_i i j
    exact .inl ⟨i, j, ra.int, rb.int, hq _ _ H (x.push (.int (i + j))).env hf⟩
  · rename_i i j
    exact .inr (.inr (.inr ⟨i, j, ra.str, rb.str, hf.1, hq _ _ H (x.push (.str (i ++ j))).env hf.2⟩))
  · exact hf.elim
theorem dpa_rep {F : Hp} {us : List V} {ds : List PyData} (h : DqAll K F us ds) : ∀ n : Nat, DqAll K F (List.replicate n us).flatten (List.replicate n ds).flatten
  | 0 => .nil
  | n + 1 => by
    rw [List.replicate_succ, List.replicate_succ, List.flatten_cons, List.flatten_cons]
    exact dpa_append h (dpa_rep h n)
def fRep : F2 := fun a b k => match a, b with
  | .list xs, .int n => -(2 ^ 63) ≤ n ∧ n < 2 ^ 63 ∧ xs.length * n.toNat ≤ sizeLine ∧ k (.lst ((List.replicate n.toNat xs).flatten.map T.d))
  | .int i, .int j => IntMulOk i j ∧ k (.d (.int (i * j)))
  | _, _ => False
def rMulA : R2 := fun x y H Q => (rI IntMulOk fun i j => .int (i * j)) x y H Q ∨ rRep x y H Q
theorem op_mulA : OpR X (binaryOp .Mult) rMulA := op_mulB.or op_rep
theorem rp_rep : RP2 K rMulA fRep := by
  intro P G ts σ vs H F As B v u a b k Q x ra rb hf hq
  unfold fRep at hf
  split at hf
  · rename_i xs n
    obtain ⟨p, us, rfl, h1, h2⟩ := ra.list x.fh
    exact .inr ⟨p, n, us, rfl, rb.int, h1, hf.1, hf.2.1, by rw [dpa_len h2]; exact hf.2.2.1, fun r hr => hq _ _ _ (x.newLst hr (dpa_rep h2 n.toNat)) hf.2.2.2⟩
  · rename_i i j
    exact .inl ⟨i, j, ra.int, rb.int, hf.1, hq _ _ H (x.push (.int _)).env hf.2⟩
  · exact hf.elim
end

/-! ### built-in functions -/
section
variable {K : PySem.W.Frag} {H F : Hp}
theorem DatRs.one {us : List V} {d : PyData} (h : DatRs K F H us [d]) : ∃ v, us = [v] ∧ DatR K F H v d := by
  cases h with
  | cons h1 h2 =>
    cases h2
    exact ⟨_, rfl, h1⟩
theorem DatRs.two {us : List V} {d e : PyData} (h : DatRs K F H us [d, e]) : ∃ v w, us = [v, w] ∧ DatR K F H v d ∧ DatR K F H w e := by
  cases h with
  | cons h1 h2 =>
    cases h2 with
    | cons h2 h3 =>
      cases h3
      exact ⟨_, _, rfl, h1, h2⟩
def on1 (f : F1) : Fn := fun ds k => match ds with
  | [a] => f a k
  | _ => False
def on2 (f : F2) : Fn := fun ds k => match ds with
  | [a, b] => f a b k
  | _ => False
def RC1 (K : PySem.W.Frag) (r : List V → Hp → VK → Prop) (f : F1) : Prop := RP1 K (fun v H Q => r [v] H Q) f
def RC2 (K : PySem.W.Frag) (r : List V → Hp → VK → Prop) (f : F2) : Prop := RP2 K (fun v u H Q => r [v, u] H Q) f
theorem RC1.n {r : List V → Hp → VK → Prop} {f : F1} (h : RC1 K r f) : RPn K r (on1 f) := by
  intro P G ts σ vs H F As B us ds k Q x ra hf hq
  match ds, ra, hf with
  | [a], ra, hf =>
    obtain ⟨v, rfl, h1⟩ := ra.one
    exact h P G ts σ vs H F As B v a k Q x h1 hf hq
theorem RC2.n {r : List V → Hp → VK → Prop} {f : F2} (h : RC2 K r f) : RPn K r (on2 f) := by
  intro P G ts σ vs H F As B us ds k Q x ra hf hq
  match ds, ra, hf with
  | [a, b], ra, hf =>
    obtain ⟨v, u, rfl, h1, h2⟩ := ra.two
    exact h P G ts σ vs H F As B v u a b k Q x h1 h2 hf hq
def fLen : F1 := fun a k => match itemsD a with
  | some ds => k (.d (.int ds.length))
  | none => False
theorem rp_len {X : Cx} : RC1 X.K (fun xs H Q => ∃ p ys, xs = [.ref p] ∧ (SqL X.K H p ys ∨ SqT X.K H p ys) ∧ Q (.int ys.length) H) fLen := by
  intro P G ts σ vs H F As B v a k Q x ra hf hq
  unfold fLen at hf
  cases a with
  | list ds =>
    obtain ⟨p, us, rfl, h1, h2⟩ := ra.list x.fh
    refine ⟨p, us, rfl, .inl (SqL.of h1), ?_⟩
    rw [dpa_len h2]
    exact hq _ _ H (x.push (.int _)).env hf
  | tuple ds =>
    obtain ⟨p, us, rfl, h1, h2⟩ := ra.tup x.fh
    refine ⟨p, us, rfl, .inr h1, ?_⟩
    rw [dpa_len h2]
    exact hq _ _ H (x.push (.int _)).env hf
  | none => exact hf.elim
  | bool _ => exact hf.elim
  | int _ => exact hf.elim
  | str _ => exact hf.elim
  | dict _ => exact hf.elim
def fSum : F1 := fun a k => match a with
  | .list ds => match intsD ds with
    | some ns => k (.d (.int ns.sum))
    | none => False
  | _ => False
theorem rp_sum : RC1 K (rSum K) fSum := by
  intro P G ts σ vs H F As B v a k Q x ra hf hq
  unfold fSum at hf
  cases a with
  | list ds =>
    simp only at hf
    split at hf
    · rename_i ns e
      obtain ⟨p, us, rfl, h1, h2⟩ := ra.list x.fh
      rw [intsD_some e] at h2
      rw [dpa_ints h2] at h1
      exact ⟨p, ns, rfl, SqL.of h1, hq _ _ H (x.push (.int _)).env hf⟩
    · exact hf.elim
  | tuple ds => exact hf.elim
  | none => exact hf.elim
  | bool _ => exact hf.elim
  | int _ => exact hf.elim
  | str _ => exact hf.elim
  | dict _ => exact hf.elim
def fAll (g : List Bool → Bool) : F1 := fun a k => match a with
  | .list ds => match blsD ds with
    | some ns => k (.d (.bool (g ns)))
    | none => False
  | _ => False
theorem rp_bools {g : List Bool → Bool} : RC1 K (fun vs H Q => ∃ (a : Addr) (bs : List Bool), vs = [V.ref a] ∧ SqL K H a (bs.map V.bl) ∧ Q (.bl (g bs)) H) (fAll g) := by
  intro P G ts σ vs H F As B v a k Q x ra hf hq
  unfold fAll at hf
  cases a with
  | list ds =>
    simp only at hf
    split at hf
    · rename_i ns e
      obtain ⟨p, us, rfl, h1, h2⟩ := ra.list x.fh
      rw [blsD_some e] at h2
      rw [dpa_bls h2] at h1
      exact ⟨p, ns, rfl, SqL.of h1, hq _ _ H (x.push (.bl _)).env hf⟩
    · exact hf.elim
  | tuple ds => exact hf.elim
  | none => exact hf.elim
  | bool _ => exact hf.elim
  | int _ => exact hf.elim
  | str _ => exact hf.elim
  | dict _ => exact hf.elim
theorem rp_all : RC1 K (rAll K) (fAll fun bs => bs.all id) := rp_bools
theorem rp_any : RC1 K (rAny K) (fAll fun bs => bs.any id) := rp_bools
def fAbs : F1 := fun a k => match a with
  | .int i => k (.d (.int (if i < 0 then -i else i)))
  | _ => False
theorem rp_abs : RC1 K (fun xs H Q => ∃ i, xs = [.int i] ∧ Q (.int (if i < 0 then -i else i)) H) fAbs := by
  intro P G ts σ vs H F As B v a k Q x ra hf hq
  match a, ra, hf with
  | .int i, ra, hf => exact ⟨i, by rw [ra.int], hq _ _ H (x.push (.int _)).env hf⟩
abbrev fMax2 : F2 := fI fun i j => .int (if j > i then j else i)
abbrev fMin2 : F2 := fI fun i j => .int (if j < i then j else i)
theorem rp_max2 : RC2 K (fun xs H Q => ∃ i j, xs = [.int i, .int j] ∧ Q (.int (if j > i then j else i)) H) fMax2 := by
  intro P G ts σ vs H F As B v u a b k Q x ra rb hf hq
  match a, b, ra, rb, hf with
  | .int i, .int j, ra, rb, hf => exact ⟨i, j, by rw [ra.int, rb.int], hq _ _ H (x.push (.int _)).env hf⟩
theorem rp_min2 : RC2 K (fun xs H Q => ∃ i j, xs = [.int i, .int j] ∧ Q (.int (if j < i then j else i)) H) fMin2 := by
  intro P G ts σ vs H F As B v u a b k Q x ra rb hf hq
  match a, b, ra, rb, hf with
  | .int i, .int j, ra, rb, hf => exact ⟨i, j, by rw [ra.int, rb.int], hq _ _ H (x.push (.int _)).env hf⟩
def maxL : List Int → Int
  | [] => 0
  | [x] => x
  | x :: y :: r => max x (maxL (y :: r))
def minL : List Int → Int
  | [] => 0
  | [x] => x
  | x :: y :: r => min x (minL (y :: r))
theorem maxL_ge : ∀ (xs : List Int) (y : Int), y ∈ xs → y ≤ maxL xs
  | [x], y, h => by
    have e : y = x := by simpa using h
    rw [e]
    exact Int.le_refl x
  | x :: z :: r, y, h => by
    show y ≤ max x (maxL (z :: r))
    rcases List.mem_cons.mp h with e | h
    · rw [e]; exact Int.le_max_left _ _
    · exact Int.le_trans (maxL_ge _ y h) (Int.le_max_right _ _)
theorem maxL_mem : ∀ (xs : List Int), 0 < xs.length → maxL xs ∈ xs
  | [x], _ => by simp [maxL]
  | x :: z :: r, _ => by
    show max x (maxL (z :: r)) ∈ _
    have h := maxL_mem (z :: r) (by simp)
    by_cases hx : x ≤ maxL (z :: r)
    · rw [Int.max_eq_right hx]; exact List.mem_cons_of_mem _ h
    · rw [Int.max_eq_left (by omega)]; exact List.mem_cons_self
theorem minL_le : ∀ (xs : List Int) (y : Int), y ∈ xs → minL xs ≤ y
  | [x], y, h => by
    have e : y = x := by simpa using h
    rw [e]
    exact Int.le_refl x
  | x :: z :: r, y, h => by
    show min x (minL (z :: r)) ≤ y
    rcases List.mem_cons.mp h with e | h
    · rw [e]; exact Int.min_le_left _ _
    · exact Int.le_trans (Int.min_le_right _ _) (minL_le _ y h)
theorem minL_mem : ∀ (xs : List Int), 0 < xs.length → minL xs ∈ xs
  | [x], _ => by simp [minL]
  | x :: z :: r, _ => by
    show min x (minL (z :: r)) ∈ _
    have h := minL_mem (z :: r) (by simp)
    by_cases hx : x ≤ minL (z :: r)
    · rw [Int.min_eq_left hx]; exact List.mem_cons_self
    · rw [Int.min_eq_right (by omega)]; exact List.mem_cons_of_mem _ h
def fMaxL : F1 := fun a k => match a with
  | .list ds => match intsD ds with
    | some ns => 0 < ns.length ∧ k (.d (.int (maxL ns)))
    | none => False
  | _ => False
def fMinL : F1 := fun a k => match a with
  | .list ds => match intsD ds with
    | some ns => 0 < ns.length ∧ k (.d (.int (minL ns)))
    | none => False
  | _ => False
theorem rp_maxL : RC1 K (rMax K) fMaxL := by
  intro P G ts σ vs H F As B v a k Q x ra hf hq
  unfold fMaxL at hf
  cases a with
  | list ds =>
    simp only at hf
    split at hf
    · rename_i ns e
      obtain ⟨p, us, rfl, h1, h2⟩ := ra.list x.fh
      rw [intsD_some e] at h2
      rw [dpa_ints h2] at h1
      refine ⟨p, ns, rfl, SqL.of h1, hf.1, fun m hm hle => ?_⟩
      have em : m = maxL ns := Int.le_antisymm (maxL_ge ns m hm) (hle _ (maxL_mem ns hf.1))
      subst em
      exact hq _ _ H (x.push (.int _)).env hf.2
    · exact hf.elim
  | tuple ds => exact hf.elim
  | none => exact hf.elim
  | bool _ => exact hf.elim
  | int _ => exact hf.elim
  | str _ => exact hf.elim
  | dict _ => exact hf.elim
theorem rp_minL : RC1 K (rMin K) fMinL := by
  intro P G ts σ vs H F As B v a k Q x ra hf hq
  unfold fMinL at hf
  cases a with
  | list ds =>
    simp only at hf
    split at hf
    · rename_i ns e
      obtain ⟨p, us, rfl, h1, h2⟩ := ra.list x.fh
      rw [intsD_some e] at h2
      rw [dpa_ints h2] at h1
      refine ⟨p, ns, rfl, SqL.of h1, hf.1, fun m hm hle => ?_⟩
      have em : m = minL ns := Int.le_antisymm (hle _ (minL_mem ns hf.1)) (minL_le ns m hm)
      subst em
      exact hq _ _ H (x.push (.int _)).env hf.2
    · exact hf.elim
  | tuple ds => exact hf.elim
  | none => exact hf.elim
  | bool _ => exact hf.elim
  | int _ => exact hf.elim
  | str _ => exact hf.elim
  | dict _ => exact hf.elim
def fInt : F1 := fun a k => match a with
  | .int i => k (.d (.int i))
  | .bool b => k (.d (.int (if b then 1 else 0)))
  | _ => False
theorem rp_int : RC1 K (fun xs H Q => (∃ i, xs = [.int i] ∧ Q (.int i) H) ∨ ∃ k, xs = [.bl k] ∧ Q (.int (if k then 1 else 0)) H) fInt := by
  intro P G ts σ vs H F As B v a k Q x ra hf hq
  match a, ra, hf with
  | .int i, ra, hf => exact .inl ⟨i, by rw [ra.int], hq _ _ H (x.push (.int _)).env hf⟩
  | .bool i, ra, hf => exact .inr ⟨i, by rw [ra.bl], hq _ _ H (x.push (.int _)).env hf⟩
def fList : F1 := fun a k => match itemsD a with
  | some ds => k (.lst (ds.map T.d))
  | none => False
theorem rp_list : RC1 K (fun xs H Q => ∃ p ys, xs = [.ref p] ∧ (SqL K H p ys ∨ SqT K H p ys) ∧ ∀ l, H l = none → Q (.ref l) (upd H l (.lst ys))) fList := by
  intro P G ts σ vs H F As B v a k Q x ra hf hq
  unfold fList at hf
  cases a with
  | list ds =>
    obtain ⟨p, us, rfl, h1, h2⟩ := ra.list x.fh
    exact ⟨p, us, rfl, .inl (SqL.of h1), fun l hl => hq _ _ _ (x.newLst hl h2) hf⟩
  | tuple ds =>
    obtain ⟨p, us, rfl, h1, h2⟩ := ra.tup x.fh
    exact ⟨p, us, rfl, .inr h1, fun l hl => hq _ _ _ (x.newLst hl h2) hf⟩
  | none => exact hf.elim
  | bool _ => exact hf.elim
  | int _ => exact hf.elim
  | str _ => exact hf.elim
  | dict _ => exact hf.elim
def fTuple : F1 := fun a k => match itemsD a with
  | some ds => k (.d (.tuple ds))
  | none => False
theorem rp_tuple : RC1 K (fun xs H Q => ∃ p ys, xs = [.ref p] ∧ ((SqL K H p ys ∧ ∀ l, H l = none → Q (.ref l) (upd H l (.tup ys))) ∨ (SqT K H p ys ∧ Q (.ref p) H))) fTuple := by
  intro P G ts σ vs H F As B v a k Q x ra hf hq
  unfold fTuple at hf
  cases a with
  | list ds =>
    obtain ⟨p, us, rfl, h1, h2⟩ := ra.list x.fh
    exact ⟨p, us, rfl, .inl ⟨SqL.of h1, fun l hl => hq _ _ _ (x.newTup hl h2) hf⟩⟩
  | tuple ds =>
    obtain ⟨p, us, e, h1, h2⟩ := ra.tup x.fh
    cases ra with
    | sc ra =>
      subst e
      exact ⟨p, us, rfl, .inr ⟨h1, hq _ _ H (x.push ra).env hf⟩⟩
  | none => exact hf.elim
  | bool _ => exact hf.elim
  | int _ => exact hf.elim
  | str _ => exact hf.elim
  | dict _ => exact hf.elim
end
end DL
end
section
set_option autoImplicit false
/-! DL4: what is walked: lists, tuples, ranges, enumerate, zip. -/
namespace DL
open PySem PySem.Spec PyProof.Rows L2

/-- J hands out just the items, while F stands -/
structure Iters (K : PySem.W.Frag) (J : It) (items : List PyData) (F : Hp) : Prop where
  go : ∀ (i : Nat) (H : Hp), i < items.length → Same F H → J.go i H
  stop : ∀ (H : Hp), Same F H → J.stop items.length H
  yld : ∀ (i : Nat) (x : PyData) (H : Hp) (v : V) (H' : Hp), items[i]? = some x → Same F H → J.yld i H v H' →
    (H' = H ∧ Dq K F v x) ∨ ∃ (p : Addr) (us : List V) (ds : List PyData), v = .ref p ∧ H p = none ∧ H' = upd H p (.tup us) ∧ x = .tuple ds ∧ DqAll K F us ds

abbrev WI := Gm → (List PyData → Gm → Prop) → Prop
def RDI (K : PySem.W.Frag) (wi : TI) (wI : WI) : Prop := ∀ (P : Par) (G : Gm) (ts : List T) (σ : L2.St) (vs : List V) (H : Hp) (k : List PyData → Gm → Prop) (R : It → Hp → Prop), Env K P G ts σ vs H → wI G k →
  (∀ (items : List PyData) (J : It) (G' : Gm) (H' F : Hp) (As : Nat → ASet) (B : ASet), EnvX K P G' ts σ vs H' F As B → Iters K J items F → k items G' → R J H') → wi σ H R
structure PID (X : Cx) (tg iter : Expr) (wi : TI) (wI : WI) : Prop where
  pi : PI X tg iter wi
  rd : RDI X.K wi wI

/-! ### a list or a tuple, by its kind -/
def SqK (K : PySem.W.Frag) (H : Hp) (a : Addr) (xs : List V) : Bool → Prop
  | true => SqL K H a xs
  | false => SqT K H a xs
def ItAt (h : Heap) (it a : Addr) (i : Nat) : Bool → Prop
  | true => h.IsListIter it a i
  | false => h.IsTupleIter it a i
def HoldK (h : Heap) (a : Addr) (its : Array Value) : Bool → Prop
  | true => h.IsList a its
  | false => h.IsTuple a its
theorem sqK_mono {K : PySem.W.Frag} {H H' : Hp} {a : Addr} {xs : List V} (e : Same H H') : ∀ {k : Bool}, SqK K H a xs k → SqK K H' a xs k
  | true, h => sqL_mono h e
  | false, h => sqT_mono h e
section
variable {X : Cx} {pins : List (Addr × Obj)} {σ : L2.St} {H : Hp} {s : Shared} {a : Addr} {xs ys : List V}
theorem inv_seqK (I : Inv X pins σ H s) : ∀ {k : Bool}, SqK X.K H a xs k → ∃ its : List Value, Vals xs its ∧ HoldK s.heap a its.toArray k ∧ a < s.heap.objs.size
  | true, h => let ⟨its, r, p, _⟩ := I.list h; ⟨its, r, p.isList, p.lt⟩
  | false, h => let ⟨its, r, p, _⟩ := I.tuple h; ⟨its, r, show s.heap.IsTuple a its.toArray from p, p.lt⟩
theorem inv_seqK_inj (I : Inv X pins σ H s) : ∀ {k : Bool}, SqK X.K H a xs k → SqK X.K H a ys k → xs = ys
  | true, h, h' => I.list_inj h h'
  | false, h, h' => I.tuple_inj h h'
end
theorem itAt_obj {h : Heap} {it a : Addr} {i : Nat} : ∀ {k : Bool}, ItAt h it a i k → ∃ o, h.get? it = some o ∧ ∀ v, o.data ≠ .cell v
  | true, ⟨o, e, _, d⟩ => ⟨o, e, fun v q => by rw [d] at q; cases q⟩
  | false, ⟨o, e, _, d⟩ => ⟨o, e, fun v q => by rw [d] at q; cases q⟩
theorem itAt_keep {h h' : Heap} {it a : Addr} {i : Nat} (e : ∀ o, h.get? it = some o → h'.get? it = some o) : ∀ {k : Bool}, ItAt h it a i k → ItAt h' it a i k
  | true, x => Heap.IsListIter.at x fun o q => e o q
  | false, x => Heap.IsTupleIter.at x fun o q => e o q
def iterCls : Bool → String
  | true => "list_iterator"
  | false => "tuple_iterator"
theorem draws_kd {prog : Program} {w : World} {A : Around} (hh : A.handled = none) (it a : Addr) (hne : a ≠ it) (items : Array Value) :
    ∀ k : Bool, Draws prog w A it [it, a] items.size (fun i v => items[i]? = some v) (fun i h => ItAt h it a i k ∧ HoldK h a items k)
  | true => Draws.list hh it a hne items
  | false => Draws.tuple hh it a hne items
def itObj (a : Addr) (k : Bool) : Obj := { cls := .type (iterCls k), data := .fields #[.ref a, .int 0 0] }
theorem begins_kd (a : Addr) (items : Array Value) : ∀ k : Bool, Begins (.ref a) (itObj a k) (fun h => HoldK h a items k)
  | true => begins_list a items
  | false => begins_tuple a items
theorem itAt_new {h : Heap} {it a : Addr} : ∀ {k : Bool}, h.get? it = some (itObj a k) → ItAt h it a 0 k
  | true, e => ⟨_, e, rfl, rfl⟩
  | false, e => ⟨_, e, rfl, rfl⟩

/-! ### a sequence itself -/
def iSq (K : PySem.W.Frag) (tl : TE) : TI := fun σ H R => tl σ H fun x H1 => ∃ (a : Addr) (k : Bool), x = .ref a ∧ (∃ xs, SqK K H1 a xs k) ∧ R (if k = true then Itl K a else Itt K a) H1
section
variable {X : Cx} {tg : Expr}
theorem pi_sq {l : Expr} {tl : TE} (hl : PE X l tl) : PI X tg l (iSq X.K tl) := by
  constructor
  intro pins s σ H R I h
  apply thn (hl.run pins s σ H _ I h)
  intro v s1 hv
  obtain ⟨x, H1, I1, r1, a, k, rfl, ⟨xs, hs⟩, q⟩ := hv
  cases r1
  obtain ⟨its, rv, hk, _⟩ := inv_seqK I1 hs
  have fresh : ∀ b ∈ [s1.heap.objs.size], FpOk X pins H1 b := by
    intro b hb
    rw [List.mem_singleton.mp hb]
    exact I1.fpOk (Nat.le_refl _) (I1.hok.fresh (Nat.le_refl _))
  refine (begins_kd a its.toArray k).iter _ _ _ _ _ _ hk ?_
  have Ik := I1.kept (h' := s1.heap.push (itObj a k)) (t' := s1.toks) fun b o e => Heap.get?_push_of_some _ e
  have at0 : ItAt (s1.heap.push (itObj a k)) s1.heap.objs.size a 0 k := itAt_new (Heap.get?_push_size _ rfl)
  cases k with
  | true => exact ⟨_, [s1.heap.objs.size], _, _, H1, rfl, Ik, turn_list a _, at0, fresh, q⟩
  | false => exact ⟨_, [s1.heap.objs.size], _, _, H1, rfl, Ik, turn_tuple a _, at0, fresh, q⟩
end
theorem iters_list {K : PySem.W.Frag} {F : Hp} {a : Addr} {us : List V} {ds : List PyData} (h : SqL K F a us) (hd : DqAll K F us ds) : Iters K (Itl K a) ds F where
  go := fun i H hi e => by
    have hl := dpa_len hd
    exact ⟨us, us[i]'(by omega), sqL_mono h e, List.getElem?_eq_getElem (by omega)⟩
  stop := fun H e => ⟨us, sqL_mono h e, by rw [dpa_len hd]; exact Nat.le_refl _⟩
  yld := fun i x H v H' hx e y => by
    obtain ⟨e1, y⟩ := y
    obtain ⟨v', q1, q2⟩ := dpa_get hd hx
    have e2 := y us (sqL_mono h e)
    rw [q1] at e2
    cases e2
    exact .inl ⟨e1, q2⟩
theorem iters_tup {K : PySem.W.Frag} {F : Hp} {a : Addr} {us : List V} {ds : List PyData} (h : SqT K F a us) (hd : DqAll K F us ds) : Iters K (Itt K a) ds F where
  go := fun i H hi e => by
    have hl := dpa_len hd
    exact ⟨us, us[i]'(by omega), sqT_mono h e, List.getElem?_eq_getElem (by omega)⟩
  stop := fun H e => ⟨us, sqT_mono h e, by rw [dpa_len hd]; exact Nat.le_refl _⟩
  yld := fun i x H v H' hx e y => by
    obtain ⟨e1, y⟩ := y
    obtain ⟨v', q1, q2⟩ := dpa_get hd hx
    have e2 := y us (sqT_mono h e)
    rw [q1] at e2
    cases e2
    exact .inl ⟨e1, q2⟩

/-! ### freezing what is handed on -/
def frzOf (G : Gm) : Tm → Option (PyData × Gm)
  | .t y => match y.toD with
    | some d => some (d, G)
    | none => none
  | .al i => match G[i]? with
    | some (some t) => match t.toD with
      | some d => some (d, G.set i (some (.d d)))
      | none => none
    | _ => none
section
variable {K : PySem.W.Frag} {P : Par} {G : Gm} {ts : List T} {σ : L2.St} {vs : List V} {H F : Hp} {As : Nat → ASet} {B : ASet}
open Classical in
theorem EnvX.freezeS' {i : Nat} {t : T} {d : PyData} (x : EnvX K P G ts σ vs H F As B) (hi : G[i]? = some (some t)) (h : t.toD = some d) :
    ∃ F' As', EnvX K P (G.set i (some (.d d))) ts σ vs H F' As' B ∧ Same F F' ∧ ∃ v, σ[i]? = some (some v) ∧ Dq K F' v d := by
  have x2 : EnvX K { P with Hb := F } G ts σ vs H F As B := ⟨Same.refl F, x.fh, x.fm, x.fmF, x.fmA, x.fmB, x.sl, x.tm, x.dj, x.dB, x.fA, x.fB, x.pn, x.len⟩
  obtain ⟨F', As', x3, v, e1, e2⟩ := x2.freezeS hi h
  exact ⟨F', As', ⟨x.hb.trans x3.hb, x3.fh, x3.fm, x3.fmF, x3.fmA, x3.fmB, x3.sl, x3.tm, x3.dj, x3.dB, x3.fA, x3.fB, x3.pn, x3.len⟩, x3.hb, v, e1, e2⟩
theorem EnvX.frz {y : Tm} {v : V} {d : PyData} {G' : Gm} (x : EnvX K P G (pushT y ts) σ (pushV y v vs) H F As B) (ho : AlOk σ y v) (hd : frzOf G y = some (d, G')) :
    ∃ F' As' B', EnvX K P G' ts σ vs H F' As' B' ∧ Same F F' ∧ Dq K F' v d := by
  cases y with
  | t y =>
    have hd : (match y.toD with
      | some d => some (d, G)
      | none => none) = some (d, G') := hd
    split at hd
    · rename_i d' e
      cases hd
      obtain ⟨F', B', x', s⟩ := x.freezeT e
      exact ⟨F', As, B', x'.pop rfl rfl, s, x'.head⟩
    · cases hd
  | al i =>
    have hd : (match G[i]? with
      | some (some t) => match t.toD with
        | some d => some (d, G.set i (some (.d d)))
        | none => none
      | _ => none) = some (d, G') := hd
    split at hd
    · rename_i t e
      split at hd
      · rename_i d' e2
        cases hd
        obtain ⟨F', As', x', s, v', e3, q⟩ := x.freezeS' e e2
        have ho : σ[i]? = some (some v) := ho
        rw [ho] at e3
        cases e3
        exact ⟨F', As', B, x', s, q⟩
      · cases hd
    · cases hd
end
/-- what is walked: a sequence of data, or the ints that are only read -/
def wSq (w : WE) : WI := fun G k => w G fun x G1 => match x with
  | .al i => match G1[i]? with
    | some (some (.ro ns)) => k (ns.map PyData.int) G1
    | _ => match frzOf G1 x with
      | some (d, G2) => match itemsD d with
        | some ds => k ds G2
        | none => False
      | none => False
  | .t _ => match frzOf G1 x with
    | some (d, G2) => match itemsD d with
      | some ds => k ds G2
      | none => False
    | none => False
theorem rdi_sq {K : PySem.W.Frag} {tl : TE} {w : WE} (h : RD K tl w) : RDI K (iSq K tl) (wSq w) := by
  intro P G ts σ vs H k R x hw hq
  refine h P G ts σ vs H _ _ x hw fun y G1 v H1 x1 ho hk => ?_
  obtain ⟨F, As, B, x1⟩ := x1
  have main : (match frzOf G1 y with
      | some (d, G2) => match itemsD d with
        | some ds => k ds G2
        | none => False
      | none => False) → ∃ (a : Addr) (c : Bool), v = .ref a ∧ (∃ xs, SqK K H1 a xs c) ∧ R (if c = true then Itl K a else Itt K a) H1 := fun hk => by
    split at hk
    · rename_i d G2 e
      obtain ⟨F', As', B', x2, s2, r2⟩ := x1.frz ho e
      split at hk
      · rename_i ds e2
        cases r2 with
        | lst h1 h2 =>
          cases e2
          exact ⟨_, true, rfl, ⟨_, SqL.of (x2.fh _ _ h1)⟩, hq ds _ G2 H1 F' As' B' x2 (iters_list (SqL.of h1) h2) hk⟩
        | tup h1 h2 =>
          cases e2
          exact ⟨_, false, rfl, ⟨_, sqT_mono h1 x2.fh⟩, hq ds _ G2 H1 F' As' B' x2 (iters_tup h1 h2) hk⟩
        | non => cases e2
        | bl => cases e2
        | int => cases e2
        | str => cases e2
      · exact hk.elim
    · exact hk.elim
  match y, hk with
  | .t y, hk => exact main hk
  | .al i, hk =>
    have hk : (match G1[i]? with
      | some (some (.ro ns)) => k (ns.map PyData.int) G1
      | _ => match frzOf G1 (.al i) with
        | some (d, G2) => match itemsD d with
          | some ds => k ds G2
          | none => False
        | none => False) := hk
    split at hk
    · rename_i ns e
      obtain ⟨v', e1, h1⟩ := x1.sl i _ e
      have ho : σ[i]? = some (some v) := ho
      rw [ho] at e1
      cases e1
      cases h1 with
      | ro h1 => exact ⟨_, true, rfl, ⟨_, sqL_mono h1 x1.fh⟩, hq _ _ G1 H1 F As B x1 (iters_list h1 (dpa_ofInts ns)) hk⟩
    · exact main hk
theorem pid_sq {X : Cx} {tg l : Expr} {tl : TE} {w : WE} (h : PD X l tl w) : PID X tg l (iSq X.K tl) (wSq w) := ⟨pi_sq h.pe, rdi_sq h.rd⟩

/-! ### ranges -/
def rangeD (lo : Int) (n : Nat) : List PyData := (List.range n).map fun (i : Nat) => PyData.int (lo + (i : Int))
theorem rangeD_len (lo : Int) (n : Nat) : (rangeD lo n).length = n := by unfold rangeD; rw [List.length_map, List.length_range]
theorem rangeD_get {lo : Int} {n i : Nat} {x : PyData} (h : (rangeD lo n)[i]? = some x) : i < n ∧ x = .int (lo + (i : Nat)) := by
  unfold rangeD at h
  rw [List.getElem?_map] at h
  by_cases hi : i < n
  · rw [List.getElem?_range hi] at h
    cases h
    exact ⟨hi, rfl⟩
  · rw [List.getElem?_eq_none (by rw [List.length_range]; omega)] at h
    cases h
theorem iters_range {K : PySem.W.Frag} {F : Hp} (lo : Int) (n : Nat) : Iters K (Itr lo n) (rangeD lo n) F where
  go := fun i H hi _ => by
    rw [rangeD_len] at hi
    exact hi
  stop := fun H _ => by
    rw [rangeD_len]
    exact Nat.le_refl n
  yld := fun i x H v H' hx _ y => by
    obtain ⟨_, rfl⟩ := rangeD_get hx
    obtain ⟨e1, e2⟩ := y
    exact .inl ⟨e1, by rw [e2]; exact .int _⟩
def small62 (i : Int) : Prop := -(2 ^ 62) ≤ i ∧ i < 2 ^ 62
def wRng1 (wa : WA) : WI := fun G k => wa G fun xs G1 => match datsOf G1 xs with
  | some [.int n] => small62 n ∧ k (rangeD 0 n.toNat) G1
  | _ => False
def wRng2 (wa : WA) : WI := fun G k => wa G fun xs G1 => match datsOf G1 xs with
  | some [.int lo, .int hi] => (small62 lo ∧ small62 hi) ∧ k (rangeD lo (hi - lo).toNat) G1
  | _ => False
theorem rdi_rng1 {K : PySem.W.Frag} {ta : TA} {wa : WA} (h : RDA K ta wa) : RDI K (iRng1 ta) (wRng1 wa) := by
  intro P G ts σ vs H k R x hw hq
  refine h P G ts σ vs H _ _ x hw fun xs G1 us H1 x1 ho hk => ?_
  obtain ⟨F, As, B, x1⟩ := x1
  have hk : (match datsOf G1 xs with
  | some [.int n] => small62 n ∧ k (rangeD 0 n.toNat) G1
  | _ => False) := hk
  split at hk
  · rename_i n e
    obtain ⟨F', B', x2, s2, r2⟩ := x1.dats ho e
    obtain ⟨v, rfl, r⟩ := r2.one
    exact ⟨n, by rw [r.int], hk.1.1, hk.1.2, hq _ _ G1 H1 F' As B' x2 (iters_range 0 n.toNat) hk.2⟩
  · exact hk.elim
theorem rdi_rng2 {K : PySem.W.Frag} {ta : TA} {wa : WA} (h : RDA K ta wa) : RDI K (iRng2 ta) (wRng2 wa) := by
  intro P G ts σ vs H k R x hw hq
  refine h P G ts σ vs H _ _ x hw fun xs G1 us H1 x1 ho hk => ?_
  obtain ⟨F, As, B, x1⟩ := x1
  have hk : (match datsOf G1 xs with
  | some [.int lo, .int hi] => (small62 lo ∧ small62 hi) ∧ k (rangeD lo (hi - lo).toNat) G1
  | _ => False) := hk
  split at hk
  · rename_i lo hi e
    obtain ⟨F', B', x2, s2, r2⟩ := x1.dats ho e
    obtain ⟨v, u, rfl, r, r'⟩ := r2.two
    exact ⟨lo, hi, by rw [r.int, r'.int], ⟨hk.1.1.1, hk.1.1.2, hk.1.2.1, hk.1.2.2⟩, hq _ _ G1 H1 F' As B' x2 (iters_range lo (hi - lo).toNat) hk.2⟩
  · exact hk.elim
section
variable {X : Cx} {tg a b : Expr} {ta : TA} {wa : WA} {p pos : Pos}
theorem pid_rng1 (hg : Gl X "range") (hm : X.mg "range" = none) (ha : PAD X [a] ta wa) (hs : starEach [a] X.env = [(false, eval a X.env)] := by rfl) : PID X tg (.Call (.Name "range" p) [a] [] pos) (iRng1 ta) (wRng1 wa) := ⟨pi_range1 hg hm ha.pe hs, rdi_rng1 ha.rd⟩
theorem pid_rng2 (hg : Gl X "range") (hm : X.mg "range" = none) (ha : PAD X [a, b] ta wa) (hs : starEach [a, b] X.env = [(false, eval a X.env), (false, eval b X.env)] := by rfl) (hs2 : starEach [b] X.env = [(false, eval b X.env)] := by rfl) :
    PID X tg (.Call (.Name "range" p) [a, b] [] pos) (iRng2 ta) (wRng2 wa) := ⟨pi_range2 hg hm ha.pe hs hs2, rdi_rng2 ha.rd⟩
end

/-! ### enumerate(v) begins, v of any kind -/
section
variable {v : Value} {o : Obj} {Hh : Heap → Prop}
set_option maxHeartbeats 1000000 in
theorem meets_enum_one (B : Begins v o Hh) :
    Meets (Builtin.«enumerate.__new__» ⟨[.type "enumerate", v], []⟩) (fun _ R s => Hh s.heap ∧
      R (.ok (.ret (.ref (s.heap.push o).objs.size))) { s with heap := (s.heap.push o).push { cls := .type "enumerate", data := .fields #[.none, .bool false, .ref s.heap.objs.size, rawInt 0, .none, .none] } }) := by
  refine .of_wp fun prog w A R s h => ?_
  obtain ⟨hp, g, d, tk, os⟩ := s
  obtain ⟨hH, h⟩ := h
  have hsub := sub_enumerate
  have go : ∀ {A2 : Around} {E2 : Value → Shared → Prop} {Q2 : Value → Shared → Prop}, Q2 (.ref hp.objs.size) ⟨hp.push o, g, d, tk, os⟩ → wpAny (model prog w) A2 (pyIter v) Q2 E2 ⟨hp, g, d, tk, os⟩ :=
    fun q => B.iter prog w _ _ _ _ hH q
  wp_walk using go
  refine wpAny_stack_any fun st => wpAny_pure ?_
  split
  · rename_i c _ _ _ _ _
    cases (c == Value.type "enumerate") <;> (wp_walk using go; exact ⟨_, rfl, h⟩)
  · wp_walk using go
    exact ⟨_, rfl, h⟩
theorem call_enumerate_one {prog : Program} {w : World} {A : Around} {E : Value → Shared → Prop} {s : Shared} {Q : Value → Shared → Prop} (B : Begins v o Hh) (h1 : Hh s.heap)
    (h : ∀ h', IsEnum h' (s.heap.objs.size + 1) s.heap.objs.size 0 .none → h'.get? s.heap.objs.size = some o → h'.objs.size = s.heap.objs.size + 2 →
      (∀ b o, s.heap.get? b = some o → h'.get? b = some o) → Q (.ref (s.heap.objs.size + 1)) { s with heap := h' }) :
    wpAny (model prog w) A (call (.type "enumerate") [v]) Q E s := by
  refine callType_new F.called_enumerate (by decide) (F.typeCall_enumerate_1 _) (F.newCall_enumerate_1 _) (fun obj => F.args_object_init_2 obj _) F.entry_enumerate_new (meets_enum_one B) ⟨h1, ?_⟩
  have sz1 : (s.heap.push o).objs.size = s.heap.objs.size + 1 := Heap.size_push ..
  have en : IsEnum ((s.heap.push o).push { cls := .type "enumerate", data := .fields #[.none, .bool false, .ref s.heap.objs.size, rawInt 0, .none, .none] }) (s.heap.objs.size + 1) s.heap.objs.size 0 .none := by
    have q := Heap.get?_push_size (s.heap.push o) (o := { cls := .type "enumerate", data := .fields #[.none, .bool false, .ref s.heap.objs.size, rawInt 0, .none, .none] }) rfl
    rw [sz1] at q
    exact q
  show _ ∧ _
  rw [sz1]
  exact ⟨⟨_, en, rfl⟩, h _ en (Heap.get?_push_of_some _ (Heap.get?_push_size _ B.free)) (by rw [Heap.size_push, sz1]) fun b o' q => Heap.get?_push_of_some _ (Heap.get?_push_of_some _ q)⟩
end

/-! ### enumerate over a list or a tuple -/
def ItE (K : PySem.W.Frag) (a : Addr) (k : Bool) : It :=
  ⟨fun i H => ∃ (xs : List V) (x : V), SqK K H a xs k ∧ xs[i]? = some x,
    fun i H v H' => ∃ (T : Addr) (x : V), v = .ref T ∧ H T = none ∧ H' = upd H T (.tup [.int (i : Nat), x]) ∧ ∀ xs, SqK K H a xs k → xs[i]? = some x,
    fun i H => ∃ xs : List V, SqK K H a xs k ∧ xs.length = i⟩
theorem turn_E {P : Program} {w : World} {K : PySem.W.Frag} {elts : List Expr} {kk : Nat} {tpos : Pos} (a e it : Addr) (c : Bool) (hne : e ≠ it) (hae : e ≠ a) (hai : a ≠ it) :
    Turn P w K (.Tuple elts kk tpos) (ItE K a c) [e, it] e (fun i h => (∃ old, IsEnum h e it ((i : Nat) : Int) old) ∧ ItAt h it a i c) where
  mem := List.mem_cons_self
  obj := by
    rintro i h ⟨⟨old, he⟩, hi⟩ b hb
    rcases List.mem_cons.mp hb with rfl | hb
    · exact ⟨_, he, fun v q => nomatch q⟩
    · rw [List.mem_singleton.mp hb]
      exact itAt_obj hi
  keep := by
    rintro i h h' ⟨⟨old, he⟩, hi⟩ k
    exact ⟨⟨old, k e List.mem_cons_self _ he⟩, itAt_keep (fun o q => k it (List.mem_cons_of_mem _ List.mem_cons_self) o q) hi⟩
  item := by
    intro X hP hw hK hc i pins s σ H E I hf st hg
    subst hP hw hK
    obtain ⟨⟨old, he⟩, hit⟩ := st
    obtain ⟨xs, x, hq, hx⟩ := hg
    obtain ⟨its, rv, hold, _⟩ := inv_seqK I hq
    obtain ⟨u, hu, ru⟩ := rv.get hx
    have hlt : i < its.toArray.size := by rw [List.size_toArray]; exact (List.getElem?_eq_some_iff.mp hu).1
    have hel : e < s.heap.objs.size := Heap.lt_size he
    have hil : it < s.heap.objs.size := let ⟨_, q, _⟩ := itAt_obj hit; Heap.lt_size q
    have hef : e ∉ [it, a] := fun z => by
      rcases List.mem_cons.mp z with z | z
      · exact hne z
      · exact hae (List.mem_singleton.mp z)
    refine wpAny_pyNext_enum_itemD (draws_kd (A := X.A.in1) (I.ok.hd hc) it a hai its.toArray c) he ⟨hit, hold⟩ hlt hne hef fun y h' tk hy ho st' hT hsz hk => ?_
    have ey : y = u := by
      have e1 : its.toArray[i]? = some y := hy
      rw [List.getElem?_toArray, hu] at e1
      exact (Option.some.inj e1).symm
    subst ey
    refine ⟨_, rfl, wpAny_letOwnedTupleGo_enum (s := { s with heap := h', toks := tk + 1 }) ho fun h2 he2 sb => ?_⟩
    have hT2 : h2.get? s.heap.objs.size = some { cls := .type "tuple", data := .seq #[.int i tk, y] } := (sb.2 _ (Nat.ne_of_gt hel)).trans hT
    have new : ObjOk X.prog X.w (upd H s.heap.objs.size (.tup [.int (i : Nat), x])) h2 s.heap.objs.size (.tup [.int (i : Nat), x]) :=
      ⟨(by decide : 2 ≤ sizeLine), [.int i tk, y], .cons ⟨tk, rfl⟩ (.cons ru .nil), _, hT2, rfl, _, rfl⟩
    have kept : ∀ b o, b ∉ [e, it] → s.heap.get? b = some o → h2.get? b = some o := fun b o hb q => by
      have n1 : b ≠ e := fun z => hb (z ▸ List.mem_cons_self)
      have n2 : b ≠ it := fun z => hb (z ▸ List.mem_cons_of_mem _ List.mem_cons_self)
      exact (sb.2 b n1).trans (hk b o n1 n2 q)
    have I1 := I.turnedNew (t' := tk + 1) (ch := [e, it]) kept hf (Nat.le_refl _) new
    refine ⟨.ref s.heap.objs.size, _, I1, rfl, ⟨_, x, rfl, I.hok.fresh (Nat.le_refl _), rfl, fun ys hy => by rw [inv_seqK_inj I hy hq]; exact hx⟩, ⟨⟨y, ?_⟩, itAt_keep (fun o q => (sb.2 it (Ne.symm hne)).trans q) st'.1⟩, fun b hb => ?_⟩
    · have e1 : ((i + 1 : Nat) : Int) = (i : Int) + 1 := by omega
      rw [e1]
      exact he2
    · have hb' : b < s.heap.objs.size := by
        rcases List.mem_cons.mp hb with z | z
        · rw [z]; exact hel
        · rw [List.mem_singleton.mp z]; exact hil
      rw [upd_ne (Nat.ne_of_lt hb')]
      exact (hf b hb).1
  done := by
    intro X hP hw hK hc i pins s σ H E I hf st hg
    subst hP hw hK
    obtain ⟨⟨old, he⟩, hit⟩ := st
    obtain ⟨xs, hq, hx⟩ := hg
    obtain ⟨its, rv, hold, _⟩ := inv_seqK I hq
    have hl : its.toArray.size = i := by rw [List.size_toArray, ← rv.length, hx]
    obtain ⟨f0, f1, f2, f3, f4, f5⟩ := hf it (List.mem_cons_of_mem _ List.mem_cons_self)
    refine wpAny_pyNext_enum_endD (draws_kd (A := X.A.in1) (I.ok.hd hc) it a hai its.toArray c) he ⟨?_, hold⟩ fun h' eb => ⟨rfl, I.turned (t' := s.toks) (fun b o hb q => eb b o hb q) f0 f1 f3 f4 f5⟩
    rw [hl]
    exact hit
  self := fun A i s Q E st h => let ⟨⟨_, he⟩, _⟩ := st; wpAny_pyIter_enum he h
def iEn (K : PySem.W.Frag) (ta : TA) : TI := fun σ H R => ta σ H fun vs H1 => ∃ (a : Addr) (k : Bool), vs = [.ref a] ∧ (∃ xs, SqK K H1 a xs k) ∧ R (ItE K a k) H1
theorem pi_E {X : Cx} {e : Expr} {ta : TA} {p pos tpos : Pos} {elts : List Expr} {kk : Nat} (hg : Gl X "enumerate") (hm : X.mg "enumerate" = none) (ha : PA X [e] ta) (hs : starEach [e] X.env = [(false, eval e X.env)] := by rfl) :
    PI X (.Tuple elts kk tpos) (.Call (.Name "enumerate" p) [e] [] pos) (iEn X.K ta) := by
  constructor
  intro pins s σ H R I h
  refine Call_ (ld_blt I hg hm boot_enumerate (PyProof.Rows.callWith_type1 (thn (ha.run pos pins s σ H _ I h) fun us s1 hus => ?_) hs rfl))
  obtain ⟨vs, H1, I1, r1, a, k, rfl, ⟨xs, hq⟩, q⟩ := hus
  obtain ⟨u, rfl, ru⟩ := vals1 r1
  cases ru
  obtain ⟨its, rv, hold, ha⟩ := inv_seqK I1 hq
  have fr : ∀ (j : Nat), FpOk X pins H1 (s1.heap.objs.size + j) := fun j => I1.fpOk (Nat.le_add_right _ _) (I1.hok.fresh (Nat.le_add_right _ _))
  refine call_enumerate_one (begins_kd a its.toArray k) hold fun h' he hit hsz hk => wpAny_pyIter_enum he ?_
  refine ⟨_, [s1.heap.objs.size + 1, s1.heap.objs.size], _, _, H1, rfl, I1.kept (t' := s1.toks) hk, turn_E a (s1.heap.objs.size + 1) s1.heap.objs.size k (Nat.succ_ne_self _) (fun z => ?_) (Nat.ne_of_lt ha), ⟨⟨.none, he⟩, itAt_new hit⟩, fun b hb => ?_, q⟩
  · rw [← z] at ha
    exact absurd ha (Nat.not_lt.mpr (Nat.le_succ _))
  · rcases List.mem_cons.mp hb with z | z
    · rw [z]; exact fr 1
    · rw [List.mem_singleton.mp z]; exact fr 0
theorem iters_E {K : PySem.W.Frag} {F : Hp} {a : Addr} {c : Bool} {us : List V} {ds : List PyData} (h : SqK K F a us c) (hd : DqAll K F us ds) :
    Iters K (ItE K a c) ((List.range ds.length).zipWith (fun (i : Nat) d => PyData.tuple [.int (i : Int), d]) ds) F where
  go := fun i H hi e => by
    rw [List.length_zipWith, List.length_range, Nat.min_self] at hi
    have hl := dpa_len hd
    exact ⟨us, us[i]'(by omega), sqK_mono e h, List.getElem?_eq_getElem (by omega)⟩
  stop := fun H e => ⟨us, sqK_mono e h, by rw [List.length_zipWith, List.length_range, Nat.min_self]; exact dpa_len hd⟩
  yld := fun i x H v H' hx e y => by
    obtain ⟨T', z, rfl, hn, rfl, hz⟩ := y
    have e1 := hz us (sqK_mono e h)
    obtain ⟨d, q1, q2⟩ := dpa_get' hd e1
    rw [List.getElem?_zipWith, q1, List.getElem?_range (List.getElem?_eq_some_iff.mp q1).1] at hx
    cases hx
    exact .inr ⟨T', _, _, rfl, hn, rfl, rfl, .cons (.int _) (.cons q2 .nil)⟩
def enumD (ds : List PyData) : List PyData := (List.range ds.length).zipWith (fun (i : Nat) d => PyData.tuple [.int (i : Int), d]) ds
def wEn (wa : WA) : WI := fun G k => wa G fun xs G1 => match xs with
  | [x] => match frzOf G1 x with
    | some (d, G2) => match itemsD d with
      | some ds => k (enumD ds) G2
      | none => False
    | none => False
  | _ => False
theorem rdi_E {K : PySem.W.Frag} {ta : TA} {wa : WA} (h : RDA K ta wa) : RDI K (iEn K ta) (wEn wa) := by
  intro P G ts σ vs H k R x hw hq
  refine h P G ts σ vs H _ _ x hw fun xs G1 us H1 x1 ho hk => ?_
  obtain ⟨F, As, B, x1⟩ := x1
  match xs, us, ho, hk with
  | [y], [v], ho, hk =>
    have hk : (match frzOf G1 y with
      | some (d, G2) => match itemsD d with
        | some ds => k (enumD ds) G2
        | none => False
      | none => False) := hk
    split at hk
    · rename_i d G2 e
      obtain ⟨F', As', B', x2, s2, r2⟩ := EnvX.frz (ts := ts) (vs := vs) x1 ho.1 e
      split at hk
      · rename_i ds e2
        cases r2 with
        | lst h1 h2 =>
          cases e2
          exact ⟨_, true, rfl, ⟨_, SqL.of (x2.fh _ _ h1)⟩, hq _ _ G2 H1 F' As' B' x2 (iters_E (c := true) (SqL.of h1) h2) hk⟩
        | tup h1 h2 =>
          cases e2
          exact ⟨_, false, rfl, ⟨_, sqT_mono h1 x2.fh⟩, hq _ _ G2 H1 F' As' B' x2 (iters_E (c := false) h1 h2) hk⟩
        | non => cases e2
        | bl => cases e2
        | int => cases e2
        | str => cases e2
      · exact hk.elim
    · exact hk.elim
theorem pid_E {X : Cx} {e : Expr} {ta : TA} {wa : WA} {p pos tpos : Pos} {elts : List Expr} {kk : Nat} (hg : Gl X "enumerate") (hm : X.mg "enumerate" = none) (ha : PAD X [e] ta wa) (hs : starEach [e] X.env = [(false, eval e X.env)] := by rfl) :
    PID X (.Tuple elts kk tpos) (.Call (.Name "enumerate" p) [e] [] pos) (iEn X.K ta) (wEn wa) := ⟨pi_E hg hm ha.pe hs, rdi_E ha.rd⟩

/-! ### zip of two, lists or tuples -/
def ItZ (K : PySem.W.Frag) (a b : Addr) (c d : Bool) : It :=
  ⟨fun i H => ∃ (xs ys : List V) (x y : V), SqK K H a xs c ∧ SqK K H b ys d ∧ xs[i]? = some x ∧ ys[i]? = some y,
    fun i H v H' => ∃ (T : Addr) (x y : V), v = .ref T ∧ H T = none ∧ H' = upd H T (.tup [x, y]) ∧ (∀ xs, SqK K H a xs c → xs[i]? = some x) ∧ ∀ ys, SqK K H b ys d → ys[i]? = some y,
    fun i H => ∃ xs ys : List V, SqK K H a xs c ∧ SqK K H b ys d ∧ i = min xs.length ys.length⟩
theorem turn_Z {P : Program} {w : World} {K : PySem.W.Frag} {elts : List Expr} {kk : Nat} {tpos : Pos} {a b z TI TO i1 i2 : Addr} {c d : Bool} (S : ZipSep2 z TI TO i1 i2 [i1, a] [i2, b]) (n1 : a ≠ i1) (n2 : b ≠ i2) :
    Turn P w K (.Tuple elts kk tpos) (ItZ K a b c d) [z, TI, TO, i1, i2] z (fun i h => IsZip h z TI TO .none ∧ IsTupOf2 h TI (.ref i1) (.ref i2) ∧ (∃ x y, IsTupOf2 h TO x y) ∧ ItAt h i1 a i c ∧ ItAt h i2 b i d) where
  mem := List.mem_cons_self
  obj := by
    rintro i h ⟨hz, hTI, ⟨x, y, hTO⟩, h1, h2⟩ e he
    simp only [List.mem_cons, List.not_mem_nil, or_false] at he
    rcases he with rfl | rfl | rfl | rfl | rfl
    · exact ⟨_, hz, fun v q => nomatch q⟩
    · exact ⟨_, hTI, fun v q => nomatch q⟩
    · exact ⟨_, hTO, fun v q => nomatch q⟩
    · exact itAt_obj h1
    · exact itAt_obj h2
  keep := by
    rintro i h h' ⟨hz, hTI, ⟨x, y, hTO⟩, h1, h2⟩ k
    exact ⟨k z (by simp) _ hz, k TI (by simp) _ hTI, ⟨x, y, k TO (by simp) _ hTO⟩, itAt_keep (fun o q => k i1 (by simp) o q) h1, itAt_keep (fun o q => k i2 (by simp) o q) h2⟩
  item := by
    intro X hP hw hK hc i pins s σ H E I hf st hg
    subst hP hw hK
    obtain ⟨hz, hTI, ⟨x0, y0, hTO⟩, h1, h2⟩ := st
    obtain ⟨xs, ys, x, y, hqx, hqy, hx, hy⟩ := hg
    obtain ⟨its, rv, hold, _⟩ := inv_seqK I hqx
    obtain ⟨its2, rv2, hold2, _⟩ := inv_seqK I hqy
    obtain ⟨u, hu, ru⟩ := rv.get hx
    obtain ⟨u2, hu2, ru2⟩ := rv2.get hy
    have l1 : i < its.toArray.size := by rw [List.size_toArray]; exact (List.getElem?_eq_some_iff.mp hu).1
    have l2 : i < its2.toArray.size := by rw [List.size_toArray]; exact (List.getElem?_eq_some_iff.mp hu2).1
    have hh := I.ok.hd hc
    refine wpAny_pyNext_zipD2_item S (draws_kd (A := X.A.in1) hh i1 a n1 its.toArray c) (draws_kd (A := X.A.in1) hh i2 b n2 its2.toArray d) hz hTI hTO ⟨h1, hold⟩ ⟨h2, hold2⟩ l1 l2 fun x1 x2 h' tk hx1 hx2 z' TO' st1 st2 hT hsz hk => ?_
    have ex1 : x1 = u := by
      have e1 : its.toArray[i]? = some x1 := hx1
      rw [List.getElem?_toArray, hu] at e1
      exact (Option.some.inj e1).symm
    have ex2 : x2 = u2 := by
      have e1 : its2.toArray[i]? = some x2 := hx2
      rw [List.getElem?_toArray, hu2] at e1
      exact (Option.some.inj e1).symm
    subst ex1 ex2
    have hzl : z < s.heap.objs.size := Heap.lt_size hz
    refine ⟨_, rfl, wpAny_letOwnedTupleGo_zip (s := { s with heap := h', toks := tk }) z' fun h2' z2 sb => ?_⟩
    have hT2 : h2'.get? s.heap.objs.size = some { cls := .type "tuple", data := .seq #[x1, x2] } := (sb.2 _ (Nat.ne_of_gt hzl)).trans hT
    have new : ObjOk X.prog X.w (upd H s.heap.objs.size (.tup [x, y])) h2' s.heap.objs.size (.tup [x, y]) :=
      ⟨(by decide : 2 ≤ sizeLine), [x1, x2], .cons ru (.cons ru2 .nil), _, hT2, rfl, _, rfl⟩
    have kept : ∀ e o, e ∉ [z, TI, TO, i1, i2] → s.heap.get? e = some o → h2'.get? e = some o := fun e o he q => by
      simp only [List.mem_cons, List.not_mem_nil, or_false, not_or] at he
      exact (sb.2 e he.1).trans (hk e o he.1 he.2.2.1 he.2.2.2.1 he.2.2.2.2 q)
    have I1 := I.turnedNew (t' := tk) (ch := [z, TI, TO, i1, i2]) kept hf (Nat.le_refl _) new
    refine ⟨.ref s.heap.objs.size, _, I1, rfl, ⟨_, x, y, rfl, I.hok.fresh (Nat.le_refl _), rfl, fun l hl => by rw [inv_seqK_inj I hl hqx]; exact hx, fun l hl => by rw [inv_seqK_inj I hl hqy]; exact hy⟩, ⟨z2, ?_, ⟨x1, x2, ?_⟩, ?_, ?_⟩, fun e he => ?_⟩
    · exact (sb.2 _ S.TIz).trans (hk _ _ S.TIz S.TITO S.TIi1 S.TIi2 hTI)
    · exact (sb.2 _ S.TOz).trans TO'
    · exact itAt_keep (fun o q => (sb.2 _ S.zi1.symm).trans q) st1.1
    · exact itAt_keep (fun o q => (sb.2 _ S.zi2.symm).trans q) st2.1
    · have hlt : e < s.heap.objs.size := by
        simp only [List.mem_cons, List.not_mem_nil, or_false] at he
        rcases he with rfl | rfl | rfl | rfl | rfl
        · exact hzl
        · exact Heap.lt_size hTI
        · exact Heap.lt_size hTO
        · exact let ⟨_, q, _⟩ := itAt_obj h1; Heap.lt_size q
        · exact let ⟨_, q, _⟩ := itAt_obj h2; Heap.lt_size q
      rw [upd_ne (Nat.ne_of_lt hlt)]
      exact (hf e he).1
  done := by
    intro X hP hw hK hc i pins s σ H E I hf st hg
    subst hP hw hK
    obtain ⟨hz, hTI, ⟨x0, y0, hTO⟩, h1, h2⟩ := st
    obtain ⟨xs, ys, hqx, hqy, hend⟩ := hg
    obtain ⟨its, rv, hold, _⟩ := inv_seqK I hqx
    obtain ⟨its2, rv2, hold2, _⟩ := inv_seqK I hqy
    have l1 : its.toArray.size = xs.length := by rw [List.size_toArray, rv.length]
    have l2 : its2.toArray.size = ys.length := by rw [List.size_toArray, rv2.length]
    have hh := I.ok.hd hc
    refine wpAny_pyNext_zipD2_end S (draws_kd (A := X.A.in1) hh i1 a n1 its.toArray c) (draws_kd (A := X.A.in1) hh i2 b n2 its2.toArray d) hz hTI hTO ⟨h1, hold⟩ ⟨h2, hold2⟩ (by omega) (by omega) (by omega) fun h' tk hk => ?_
    refine ⟨rfl, I.turnedL (t' := tk) (ch := [z, TI, TO, i1, i2]) (fun e o he q => ?_) hf⟩
    simp only [List.mem_cons, List.not_mem_nil, or_false, not_or] at he
    exact hk e o he.1 he.2.2.1 he.2.2.2.1 he.2.2.2.2 q
  self := fun A i s Q E st h => wpAny_pyIter_zip st.1 h
def iZp (K : PySem.W.Frag) (ta : TA) : TI := fun σ H R => ta σ H fun vs H1 => ∃ (a b : Addr) (c d : Bool), vs = [.ref a, .ref b] ∧ (∃ xs, SqK K H1 a xs c) ∧ (∃ xs, SqK K H1 b xs d) ∧ R (ItZ K a b c d) H1
theorem pi_Z {X : Cx} {e e2 : Expr} {ta : TA} {p pos tpos : Pos} {elts : List Expr} {kk : Nat} (hg : Gl X "zip") (hm : X.mg "zip" = none) (ha : PA X [e, e2] ta)
    (hs : starEach [e, e2] X.env = (false, eval e X.env) :: starEach [e2] X.env := by rfl) (hpl : (backTo pos (starEach [e2] X.env)).any (·.1) = false := by rfl) :
    PI X (.Tuple elts kk tpos) (.Call (.Name "zip" p) [e, e2] [] pos) (iZp X.K ta) := by
  constructor
  intro pins s σ H R I h
  refine Call_ (ld_blt I hg hm PyProof.Rows.boot_zip (PyProof.Rows.callWith_type1 (thn (ha.run pos pins s σ H _ I h) fun us s1 hus => ?_) hs hpl))
  obtain ⟨vs, H1, I1, r1, a, b, c, d, rfl, ⟨xs, hq⟩, ⟨ys, hq2⟩, q⟩ := hus
  obtain ⟨u, u2, rfl, ru, ru2⟩ := vals2 r1
  cases ru
  cases ru2
  obtain ⟨its, rv, hold, la⟩ := inv_seqK I1 hq
  obtain ⟨its2, rv2, hold2, lb⟩ := inv_seqK I1 hq2
  refine zip_begins2 (begins_kd a its.toArray c) (begins_kd b its2.toArray d) hold hold2 fun h' hz hTI hTO h1 h2 hsz hk => wpAny_pyIter_zip hz ?_
  have S : ZipSep2 (s1.heap.objs.size + 4) (s1.heap.objs.size + 2) (s1.heap.objs.size + 3) s1.heap.objs.size (s1.heap.objs.size + 1) [s1.heap.objs.size, a] [s1.heap.objs.size + 1, b] :=
    zip_sep2 (fun e he => by rw [List.mem_singleton.mp he]; exact la) (fun e he => by rw [List.mem_singleton.mp he]; exact lb)
  refine ⟨_, [s1.heap.objs.size + 4, s1.heap.objs.size + 2, s1.heap.objs.size + 3, s1.heap.objs.size, s1.heap.objs.size + 1], _, _, H1, rfl, I1.kept (t' := s1.toks) hk, turn_Z S (Nat.ne_of_lt la) (Nat.ne_of_lt (Nat.lt_succ_of_lt lb)), ⟨hz, hTI, ⟨_, _, hTO⟩, itAt_new h1, itAt_new h2⟩, fun e he => ?_, q⟩
  have fr : ∀ (j : Nat), FpOk X pins H1 (s1.heap.objs.size + j) := fun j => I1.fpOk (Nat.le_add_right _ _) (I1.hok.fresh (Nat.le_add_right _ _))
  simp only [List.mem_cons, List.not_mem_nil, or_false] at he
  rcases he with rfl | rfl | rfl | rfl | rfl
  · exact fr 4
  · exact fr 2
  · exact fr 3
  · exact fr 0
  · exact fr 1
def zipD (xs ys : List PyData) : List PyData := xs.zipWith (fun a b => PyData.tuple [a, b]) ys
theorem iters_Z {K : PySem.W.Frag} {F : Hp} {a b : Addr} {c d : Bool} {us ws : List V} {xs ys : List PyData} (h : SqK K F a us c) (h' : SqK K F b ws d) (hd : DqAll K F us xs) (hd' : DqAll K F ws ys) :
    Iters K (ItZ K a b c d) (zipD xs ys) F where
  go := fun i H hi e => by
    unfold zipD at hi
    rw [List.length_zipWith] at hi
    have hl := dpa_len hd
    have hl' := dpa_len hd'
    exact ⟨us, ws, us[i]'(by omega), ws[i]'(by omega), sqK_mono e h, sqK_mono e h', List.getElem?_eq_getElem (by omega), List.getElem?_eq_getElem (by omega)⟩
  stop := fun H e => ⟨us, ws, sqK_mono e h, sqK_mono e h', by unfold zipD; rw [List.length_zipWith, dpa_len hd, dpa_len hd']⟩
  yld := fun i x H v H' hx e y => by
    obtain ⟨T', z, z2, rfl, hn, rfl, hz, hz2⟩ := y
    obtain ⟨q, q1, q2⟩ := dpa_get' hd (hz us (sqK_mono e h))
    obtain ⟨r, r1, r2⟩ := dpa_get' hd' (hz2 ws (sqK_mono e h'))
    unfold zipD at hx
    rw [List.getElem?_zipWith, q1, r1] at hx
    cases hx
    exact .inr ⟨T', _, _, rfl, hn, rfl, rfl, .cons q2 (.cons r2 .nil)⟩
/-- several are frozen, the last first -/
def frzsOf : Gm → List Tm → Option (List PyData × Gm)
  | G, [] => some ([], G)
  | G, x :: xs => match frzsOf G xs with
    | some (ds, G1) => match frzOf G1 x with
      | some (d, G2) => some (d :: ds, G2)
      | none => none
    | none => none
section
variable {K : PySem.W.Frag} {P : Par} {σ : L2.St} {H : Hp}
theorem EnvX.frzs : ∀ {xs : List Tm} {us : List V} {ds : List PyData} {G G' : Gm} {ts : List T} {vs : List V} {F : Hp} {As : Nat → ASet} {B : ASet}, EnvX K P G (pushTs xs ts) σ (pushVs xs us vs) H F As B → AlOks σ xs us → frzsOf G xs = some (ds, G') →
    ∃ F' As' B', EnvX K P G' ts σ vs H F' As' B' ∧ Same F F' ∧ DqAll K F' us ds
  | [], [], ds, G, G', ts, vs, F, As, B, x, _, e => by
    cases e
    exact ⟨F, As, B, x, Same.refl F, .nil⟩
  | [], _ :: _, _, _, _, _, _, _, _, _, _, h, _ => h.elim
  | _ :: _, [], _, _, _, _, _, _, _, _, _, h, _ => h.elim
  | y :: xs, v :: us, ds, G, G', ts, vs, F, As, B, x, h, e => by
    rw [frzsOf] at e
    split at e
    · rename_i ds1 G1 e1
      split at e
      · rename_i d G2 e2
        cases e
        obtain ⟨F1, As1, B1, x1, s1, r1⟩ := EnvX.frzs (xs := xs) (us := us) x h.2 e1
        obtain ⟨F2, As2, B2, x2, s2, r2⟩ := x1.frz h.1 e2
        exact ⟨F2, As2, B2, x2, s1.trans s2, .cons r2 (dpa_mono s2 r1)⟩
      · cases e
    · cases e
end
theorem dq_seq {K : PySem.W.Frag} {F : Hp} {v : V} {d : PyData} {ds : List PyData} (h : Dq K F v d) (e : itemsD d = some ds) : ∃ (a : Addr) (c : Bool) (us : List V), v = .ref a ∧ SqK K F a us c ∧ DqAll K F us ds := by
  cases h with
  | lst h1 h2 =>
    cases e
    exact ⟨_, true, _, rfl, SqL.of h1, h2⟩
  | tup h1 h2 =>
    cases e
    exact ⟨_, false, _, rfl, h1, h2⟩
  | non => cases e
  | bl => cases e
  | int => cases e
  | str => cases e
def wZp (wa : WA) : WI := fun G k => wa G fun xs G1 => match frzsOf G1 xs with
  | some ([d, e], G2) => match itemsD d, itemsD e with
    | some ds, some es => k (zipD ds es) G2
    | _, _ => False
  | _ => False
theorem rdi_Z {K : PySem.W.Frag} {ta : TA} {wa : WA} (h : RDA K ta wa) : RDI K (iZp K ta) (wZp wa) := by
  intro P G ts σ vs H k R x hw hq
  refine h P G ts σ vs H _ _ x hw fun xs G1 us H1 x1 ho hk => ?_
  obtain ⟨F, As, B, x1⟩ := x1
  have hk : (match frzsOf G1 xs with
  | some ([d, e], G2) => match itemsD d, itemsD e with
    | some ds, some es => k (zipD ds es) G2
    | _, _ => False
  | _ => False) := hk
  split at hk
  · rename_i d e G2 e0
    obtain ⟨F', As', B', x2, s2, r2⟩ := x1.frzs ho e0
    split at hk
    · rename_i ds es e1 e2
      cases r2 with
      | cons ra rb =>
        cases rb with
        | cons rb rc =>
          cases rc
          obtain ⟨a, c, us, rfl, h1, h2⟩ := dq_seq ra e1
          obtain ⟨b, c2, ws, rfl, h3, h4⟩ := dq_seq rb e2
          exact ⟨a, b, c, c2, rfl, ⟨_, sqK_mono x2.fh h1⟩, ⟨_, sqK_mono x2.fh h3⟩, hq _ _ G2 H1 F' As' B' x2 (iters_Z h1 h3 h2 h4) hk⟩
    · exact hk.elim
  · exact hk.elim
theorem pid_Z {X : Cx} {e e2 : Expr} {ta : TA} {wa : WA} {p pos tpos : Pos} {elts : List Expr} {kk : Nat} (hg : Gl X "zip") (hm : X.mg "zip" = none) (ha : PAD X [e, e2] ta wa)
    (hs : starEach [e, e2] X.env = (false, eval e X.env) :: starEach [e2] X.env := by rfl) (hpl : (backTo pos (starEach [e2] X.env)).any (·.1) = false := by rfl) :
    PID X (.Tuple elts kk tpos) (.Call (.Name "zip" p) [e, e2] [] pos) (iZp X.K ta) (wZp wa) := ⟨pi_Z hg hm ha.pe hs hpl, rdi_Z ha.rd⟩
end DL
end
section
set_option autoImplicit false
/-! DL5: displays, slices. -/
namespace DL
open PySem PySem.Spec PyProof.Rows L2

/-! ### displays -/
def takeOf (G : Gm) : Tm → Option (T × Gm)
  | .t y => some (y, G)
  | .al i => match G[i]? with
    | some (some (.ro ns)) => some (.ro ns, G)
    | some (some t) => match t.toD with
      | some d => some (.d d, G.set i (some (.d d)))
      | none => none
    | _ => none
def takesOf : Gm → List Tm → Option (List T × Gm)
  | G, [] => some ([], G)
  | G, x :: xs => match takesOf G xs with
    | some (ys, G1) => match takeOf G1 x with
      | some (y, G2) => some (y :: ys, G2)
      | none => none
    | none => none
section
variable {K : PySem.W.Frag} {P : Par} {σ : L2.St} {H : Hp}
theorem trs_rot {F : Hp} {z : T} {v : V} : ∀ {ys : List T} {us : List V} {ts : List T} {vs : List V} {B : ASet}, ys.length = us.length → TRs K F H (ys ++ z :: ts) (us ++ v :: vs) B → TRs K F H (z :: (ys ++ ts)) (v :: (us ++ vs)) B
  | [], [], _, _, _, _, h => h
  | [], _ :: _, _, _, _, e, _ => by cases e
  | _ :: _, [], _, _, _, e, _ => by cases e
  | y :: ys, u :: us, ts, vs, B, e, h => by
    cases h with
    | cons h1 h2 h3 h4 h5 =>
      rename_i A1 A2
      cases trs_rot (Nat.succ.inj e) h2 with
      | cons q1 q2 q3 q4 q5 =>
        rename_i C1 C2
        refine .cons (A1 := C1) (A2 := fun b => A1 b ∨ C2 b) q1 (.cons h1 q2 (fun b z w => h3 b z (q5 b w)) (fun b z => .inl z) fun b z => .inr z) (fun b z w => w.elim (fun w => h3 b w (q4 b z)) (q3 b z)) (fun b z => h5 b (q4 b z)) fun b z => z.elim (h4 b) fun z => h5 b (q5 b z)
theorem alOks_len {σ : L2.St} : ∀ {xs : List Tm} {us : List V}, AlOks σ xs us → xs.length = us.length
  | [], [], _ => rfl
  | [], _ :: _, h => h.elim
  | _ :: _, [], h => h.elim
  | _ :: xs, _ :: us, h => by rw [List.length_cons, List.length_cons, alOks_len h.2]
theorem takesOf_len : ∀ {xs : List Tm} {G G' : Gm} {ys : List T}, takesOf G xs = some (ys, G') → ys.length = xs.length
  | [], _, _, _, e => by cases e; rfl
  | x :: xs, G, G', ys, e => by
    rw [takesOf] at e
    split at e
    · rename_i ys1 G1 e1
      split at e
      · cases e
        rw [List.length_cons, List.length_cons, takesOf_len e1]
      · cases e
    · cases e
theorem EnvX.takes : ∀ {xs : List Tm} {us : List V} {ys : List T} {G G' : Gm} {ts : List T} {vs : List V} {F : Hp} {As : Nat → ASet} {B : ASet}, EnvX K P G (pushTs xs ts) σ (pushVs xs us vs) H F As B → AlOks σ xs us → takesOf G xs = some (ys, G') →
    ∃ F' As' B', EnvX K P G' (ys ++ ts) σ (us ++ vs) H F' As' B' ∧ Same F F'
  | [], [], ys, G, G', ts, vs, F, As, B, x, _, e => by
    cases e
    exact ⟨F, As, B, x, Same.refl F⟩
  | [], _ :: _, _, _, _, _, _, _, _, _, _, h, _ => h.elim
  | _ :: _, [], _, _, _, _, _, _, _, _, _, h, _ => h.elim
  | y :: xs, v :: us, ys, G, G', ts, vs, F, As, B, x, h, e => by
    rw [takesOf] at e
    split at e
    · rename_i ys1 G1 e1
      obtain ⟨F1, As1, B1, x1, s1⟩ := EnvX.takes (xs := xs) (us := us) x h.2 e1
      have hl : ys1.length = us.length := by rw [takesOf_len e1, alOks_len h.2]
      split at e
      · rename_i z G2 e2
        cases e
        cases y with
        | t y =>
          cases e2
          exact ⟨F1, As1, B1, x1.tmps (trs_rot hl x1.tm), s1⟩
        | al i =>
          have ho : σ[i]? = some (some v) := h.1
          have e2 : (match G1[i]? with
            | some (some (.ro ns)) => some (T.ro ns, G1)
            | some (some t) => match t.toD with
              | some d => some (T.d d, G1.set i (some (.d d)))
              | none => none
            | _ => none) = some (z, G') := e2
          split at e2
          · rename_i ns e3
            cases e2
            obtain ⟨v', e4, q⟩ := x1.sl i _ e3
            rw [ho] at e4
            cases e4
            cases q with
            | ro q => exact ⟨F1, As1, B1, x1.tmps (.cons (A1 := fun _ => False) (A2 := B1) (.ro q) x1.tm (fun _ z => z.elim) (fun _ z => z.elim) fun _ z => z), s1⟩
          · rename_i t _ e3
            split at e2
            · rename_i d e5
              cases e2
              obtain ⟨F2, As2, x2, s2, v', e6, q⟩ := x1.freezeS' e3 e5
              rw [ho] at e6
              cases e6
              exact ⟨F2, As2, B1, x2.push q, s1.trans s2⟩
            · cases e2
          · cases e2
      · cases e
    · cases e
end
def wTup (wa : WA) : WE := fun G k => wa G fun xs G1 => match frzsOf G1 xs with
  | some (ds, G2) => ds.length ≤ 1000 ∧ k (.t (.d (.tuple ds))) G2
  | none => False
def wLst (wa : WA) : WE := fun G k => wa G fun xs G1 => match takesOf G1 xs with
  | some (ys, G2) => ys.length ≤ 1000 ∧ k (.t (.lst ys)) G2
  | none => False
theorem le1000 {n : Nat} (h : n ≤ 1000) : n ≤ sizeLine := Nat.le_trans h (by decide)
section
variable {X : Cx} {K : PySem.W.Frag} {es : List Expr} {ta : TA} {wa : WA} {pos : Pos}
theorem rd_tup (h : RDA K ta wa) : RD K (tTup ta) (wTup wa) := by
  intro P G ts σ vs H k Q x hw hq
  refine h P G ts σ vs H _ _ x hw fun xs G1 us H1 x1 ho hk => ?_
  obtain ⟨F, As, B, x1⟩ := x1
  have hk : (match frzsOf G1 xs with
  | some (ds, G2) => ds.length ≤ 1000 ∧ k (.t (.d (.tuple ds))) G2
  | none => False) := hk
  split at hk
  · rename_i ds G2 e
    obtain ⟨F', As', B', x2, s2, r2⟩ := x1.frzs ho e
    exact ⟨by rw [dpa_len r2]; exact le1000 hk.1, fun p hp => hq (.t (.d (.tuple ds))) G2 (.ref p) _ (x2.newTup hp r2) trivial hk.2⟩
  · exact hk.elim
theorem rd_lst (h : RDA K ta wa) : RD K (tLst ta) (wLst wa) := by
  intro P G ts σ vs H k Q x hw hq
  refine h P G ts σ vs H _ _ x hw fun xs G1 us H1 x1 ho hk => ?_
  obtain ⟨F, As, B, x1⟩ := x1
  have hk : (match takesOf G1 xs with
  | some (ys, G2) => ys.length ≤ 1000 ∧ k (.t (.lst ys)) G2
  | none => False) := hk
  split at hk
  · rename_i ys G2 e
    obtain ⟨F', As', B', x2, s2⟩ := x1.takes ho e
    have hl : ys.length = us.length := by rw [takesOf_len e, alOks_len ho]
    exact ⟨by rw [← hl]; exact le1000 hk.1, fun p hp => hq (.t (.lst ys)) G2 (.ref p) _ ⟨_, _, _, x2.allocL rfl rfl hl hp⟩ trivial hk.2⟩
  · exact hk.elim
theorem pd_tup {x1 : Nat} (h : PAD X es ta wa) : PD X (.Tuple es x1 pos) (tTup ta) (wTup wa) := ⟨pe_tup h.pe, rd_tup h.rd⟩
theorem pd_lst (h : PAD X es ta wa) : PD X (.List es pos) (tLst ta) (wLst wa) := ⟨pe_lst h.pe, rd_lst h.rd⟩
end

/-! ### slices -/
abbrev WO := Gm → (Option Int → Gm → Prop) → Prop
def RDO (K : PySem.W.Frag) (t : TO) (w : WO) : Prop := ∀ (P : Par) (G : Gm) (ts : List T) (σ : L2.St) (vs : List V) (H : Hp) (k : Option Int → Gm → Prop) (Q : Option Int → Hp → Prop), Env K P G ts σ vs H → w G k →
  (∀ o G' H', Env K P G' ts σ vs H' → k o G' → Q o H') → t σ H Q
structure POD (X : Cx) (e : Option Expr) (t : TO) (w : WO) : Prop where
  po : PO X e t
  rd : RDO X.K t w
def wNo : WO := fun G k => k none G
def wPart (w : WE) : WO := fun G k => w G fun x G1 => match x with
  | .t (.d (.int i)) => k (some i) G1
  | _ => False
def cutL {α : Type} (xs : List α) (lo hi : Option Int) : List α := (xs.drop (HT.sIx xs.length 0 lo)).take (HT.sIx xs.length xs.length hi - HT.sIx xs.length 0 lo)
def fSl (lo hi : Option Int) : F1 := fun a k => match a with
  | .list ds => k (.lst ((cutL ds lo hi).map T.d))
  | .tuple ds => k (.d (.tuple (cutL ds lo hi)))
  | _ => False
def wSl (we : WE) (wl wh : WO) : WE := fun G k => we G fun x G1 => wl G1 fun lo G2 => wh G2 fun hi G3 => match datOf G3 x with
  | some a => fSl lo hi a fun r => k (.t r) G3
  | none => False
theorem dpa_cut {K : PySem.W.Frag} {F : Hp} {us : List V} {ds : List PyData} (h : DqAll K F us ds) (lo hi : Option Int) : DqAll K F (cutV us lo hi) (cutL ds lo hi) := by
  have e : cutV us lo hi = cutL us lo hi := rfl
  rw [e]
  unfold cutL
  rw [dpa_len h]
  exact dpa_take _ (dpa_drop _ h)
def rSlB (K : PySem.W.Frag) : V → Option Int → Option Int → Hp → VK → Prop := fun x lo hi H Q => rSlL K x lo hi H Q ∨ rSlA K x lo hi H Q
theorem cutL_whole {α : Type} {xs : List α} {lo hi : Option Int} (h : HT.sIx xs.length 0 lo = 0 ∧ HT.sIx xs.length xs.length hi = xs.length) : cutL xs lo hi = xs := by
  unfold cutL
  rw [h.1, h.2, List.drop_zero, Nat.sub_zero, List.take_length]
section
variable {X : Cx} {K : PySem.W.Frag} {e : Expr} {te : TE} {we : WE} {tl th : TO} {wl wh : WO}
theorem pod_none : POD X none tNoPart wNo := ⟨po_none, fun P G ts σ vs H k Q x hw hq => hq none G H x hw⟩
theorem rdo_some (h : RD K te we) : RDO K (tPart te) (wPart we) := by
  intro P G ts σ vs H k Q x hw hq
  refine h P G ts σ vs H _ _ x hw fun y G1 v H1 x1 ho hk => ?_
  match y, hk with
  | .t (.d (.int i)), hk => exact ⟨i, Env.int x1, hq (some i) G1 H1 x1.pop hk⟩
theorem pod_some (h : PD X e te we) : POD X (some e) (tPart te) (wPart we) := ⟨po_some h.pe, rdo_some h.rd⟩
theorem rd_sl (h : RD K te we) (hl : RDO K tl wl) (hh : RDO K th wh) : RD K (tSl (rSlB K) te tl th) (wSl we wl wh) := by
  intro P G ts σ vs H k Q x hw hq
  refine h P G ts σ vs H _ _ x hw fun y G1 v H1 x1 ho hk => ?_
  refine hl P G1 _ σ _ H1 _ _ x1 hk fun lo G2 H2 x2 hk => ?_
  refine hh P G2 _ σ _ H2 _ _ x2 hk fun hi G3 H3 x3 hk => ?_
  have hk : (match datOf G3 y with
  | some a => fSl lo hi a fun r => k (.t r) G3
  | none => False) := hk
  obtain ⟨F, As, B, x3⟩ := x3
  split at hk
  · rename_i a e
    obtain ⟨F', B', x4, s4, r4⟩ := x3.dat ho e
    cases a with
    | list ds =>
      obtain ⟨p, us, rfl, h1, h2⟩ := r4.list x4.fh
      exact .inl ⟨p, us, rfl, SqL.of h1, fun q hn => hq (.t _) G3 _ _ (x4.newLst hn (dpa_cut h2 lo hi)) trivial hk⟩
    | tuple ds =>
      obtain ⟨p, us, ev, h1, h2⟩ := r4.tup x4.fh
      have hk : k (.t (.d (.tuple (cutL ds lo hi)))) G3 := hk
      refine .inr ⟨p, us, ev, h1, fun hw => ?_, fun _ q hn => hq (.t _) G3 _ _ (x4.newTup hn (dpa_cut h2 lo hi)) trivial hk⟩
      rw [dpa_len h2] at hw
      rw [cutL_whole hw] at hk
      cases r4 with
      | sc r4 =>
        subst ev
        exact hq (.t _) G3 _ _ (x4.push r4).env trivial hk
    | none => exact hk.elim
    | bool _ => exact hk.elim
    | int _ => exact hk.elim
    | str _ => exact hk.elim
    | dict _ => exact hk.elim
  · exact hk.elim
theorem sl_both : SlR X (rSlB X.K) := sl_list.or sl_tupA
theorem pd_sl {lo hi : Option Expr} {p2 pos : Pos} (he : PD X e te we) (hl : POD X lo tl wl) (hh : POD X hi th wh) : PD X (.Subscript e (.Slice lo hi none p2) pos) (tSl (rSlB X.K) te tl th) (wSl we wl wh) :=
  ⟨pe_slice sl_both he.pe hl.po hh.po, rd_sl he.rd hl.rd hh.rd⟩
end

/-! ### [::-1], and [lo::step] of a list -/
section
open HT
variable {prog : Program} {w : World} {A : Around} {E : Value → Shared → Prop} {s : Shared}
theorem sliceApplied_back {sl : Addr} {vk : Value} {n : Nat} {Q : Int × Int × Nat → Shared → Prop} (hs : s.heap.IsSliceOf sl .none .none vk) (pk : IsPart vk (some (-1)))
    (h : Q ((n : Int) - 1, -1, n) s) : wpAny (model prog w) A (Builtin.Slice.sliceApplied (.ref sl) (pure (n : Int))) Q E s := by
  obtain ⟨os, hos, hcs, hds⟩ := id hs
  unfold Builtin.Slice.sliceApplied Builtin.Slice.sliceFields
  refine wpAny_bind (wpAny_bind (wpAny_field hos hds (x := .none) rfl (wpAny_bind (wpAny_field hos hds (x := .none) rfl (wpAny_bind (wpAny_field hos hds (x := vk) rfl (wpAny_pure ?_)))))))
  refine wpAny_bind (HT.slicePart_ pk ?_)
  show wpAny _ _ (if ((-1 : Int) == 0) = true then _ else _) _ _ s
  rw [if_neg (by decide)]
  refine wpAny_bind (slicePart_none (wpAny_bind (slicePart_none (wpAny_bind (wpAny_pure ?_)))))
  have e : Builtin.Slice.slicePlaces ((n : Int) - 1) (-1) (-1) = n := by
    unfold Builtin.Slice.slicePlaces
    rw [if_neg (by decide)]
    by_cases hn : (n : Int) - 1 > -1
    · rw [if_pos hn]
      have : (-(-1) : Int) = 1 := by decide
      rw [this, Int.ediv_one]
      omega
    · rw [if_neg hn]
      omega
  show wpAny _ _ (pure ((n : Int) - 1, (-1 : Int), Builtin.Slice.slicePlaces ((n : Int) - 1) (-1) (-1))) _ _ s
  rw [e]
  exact wpAny_pure h
theorem fm_congr {α β : Type} {f g : α → Option β} : ∀ {l : List α}, (∀ a ∈ l, f a = g a) → l.filterMap f = l.filterMap g
  | [], _ => rfl
  | a :: l, h => by
    have ih := fm_congr (l := l) fun b hb => h b (List.mem_cons_of_mem _ hb)
    have ha := h a List.mem_cons_self
    cases q : g a with
    | none => rw [List.filterMap_cons_none (ha.trans q), List.filterMap_cons_none q, ih]
    | some b => rw [List.filterMap_cons_some (ha.trans q), List.filterMap_cons_some q, ih]
theorem pick_back (xs : Array Value) : ((List.range xs.size).filterMap fun (k : Nat) => xs[((xs.size : Int) - 1 + (k : Int) * -1).toNat]?).toArray = xs.toList.reverse.toArray := by
  congr 1
  have key : ∀ k ∈ List.range xs.size, xs[((xs.size : Int) - 1 + (k : Int) * -1).toNat]? = xs[xs.size - 1 - k]? := fun k hk => by
    have hk := List.mem_range.mp hk
    have e : ((xs.size : Int) - 1 + (k : Int) * -1).toNat = xs.size - 1 - k := by omega
    rw [e]
  have e1 : ((List.range xs.size).filterMap fun (k : Nat) => xs[((xs.size : Int) - 1 + (k : Int) * -1).toNat]?) = (List.range xs.size).filterMap fun k => xs[xs.size - 1 - k]? := fm_congr key
  rw [e1]
  have e2 := PySem.W.krv_all xs
  rw [← e2, ← List.filterMap_reverse, ← PySem.W.krv_range, List.filterMap_map]
  rfl
theorem getItem_tuple_back {t sl : Addr} {items : Array Value} {vk : Value} {Q : Value → Shared → Prop} (ht : IsTup s.heap t items) (hs : s.heap.IsSliceOf sl .none .none vk) (pk : IsPart vk (some (-1)))
    (h : Q (.ref s.heap.objs.size) { s with heap := s.heap.push { cls := .type "tuple", data := .seq items.toList.reverse.toArray } }) (hsz : items.size ≤ sizeLine) : wpAny (model prog w) A (getItem (.ref t) (.ref sl)) Q E s := by
  have fits : sizeOk (.seq items.toList.reverse.toArray) := by
    show items.toList.reverse.toArray.size ≤ sizeLine
    rw [List.size_toArray, List.length_reverse, Array.length_toList]
    exact hsz
  obtain ⟨os, hos, hcs, hds⟩ := id hs
  have hTs : s.TypeIs (.ref sl) "slice" := ⟨os, hos, hcs⟩
  unfold getItem
  try with_reducible refine wpAny_holding ?_
  first | refine wpAny_bind (wpAny_pure ?_) | skip
  refine wpAny_bind (wpAny_sequenceKey ht.typeIs (by decide) ?_)
  refine wpAny_bind (wpAny_callSpecial?_slot (name := Str.ofString "__getitem__") ht.typeIs PyProof.Rows.slot_tuple_getitem (wpAny_call_entry PyProof.Rows.slot_tuple_getitem ht.typeIs entry_tuple_getitem ?_ (args_tuple_getitem _ _)))
  show wpAny _ _ (Builtin.Tuple.tupleItemsOf (.ref t) >>= _) _ _ s
  refine wpAny_bind (tupleItemsOf_ ht (wpAny_bind (wpAny_typeOf hTs ?_)))
  rw [if_pos (by decide)]
  refine wpAny_bind (sliceApplied_back hs pk ?_)
  have no : ¬ ((((items.size : Int) - 1) == 0 && (-1 : Int) == 1 && items.size == items.size) = true) := by simp
  show wpAny _ _ (if ((((items.size : Int) - 1) == 0 && (-1 : Int) == 1 && items.size == items.size) = true) then _ else _) _ _ s
  rw [if_neg no, pick_back]
  first
    | exact wpAny_bind (m := Builtin.Tuple.tupleExact _) (wpAny_newObj_type (wpAny_pure ⟨_, rfl, wpAny_pure h⟩) fits)
    | exact wpAny_bind (m := Builtin.Tuple.tupleExact _) (wpAny_newObj_type (wpAny_bind (wpAny_pure (wpAny_pure ⟨_, rfl, wpAny_pure h⟩))) fits)
    | exact wpAny_bind (wpAny_bind (m := Builtin.Tuple.tupleExact _) (wpAny_newObj_type (wpAny_pure (wpAny_pure ⟨_, rfl, wpAny_pure h⟩)) fits))
    | exact wpAny_bind (wpAny_bind (m := Builtin.Tuple.tupleExact _) (wpAny_newObj_type (wpAny_pure ⟨_, rfl, wpAny_pure h⟩) fits))
end
/-- x[lo:hi:step], by values -/
def SlR3 (X : Cx) (r : V → Option Int → Option Int → Int → Hp → VK → Prop) : Prop :=
  ∀ (pins : List (Addr × Obj)) (s : Shared) (σ : L2.St) (H : Hp) (x : V) (v vl vu vk : Value) (lo hi : Option Int) (st : Int) (sl : Addr) (Q : VK), Inv X pins σ H s → RelV x v → s.heap.IsSliceOf sl vl vu vk → IsPart vl lo → IsPart vu hi → IsPart vk (some st) → r x lo hi st H Q →
    ∃ T id, typeLookup (.type T) "__getitem__" = pure (some (.builtin id)) ∧ s.TypeIs v T ∧ wpAny (model X.prog X.w) X.A (getItem v (.ref sl)) (EP X pins σ Q) X.xe s
def tSl3 (r : V → Option Int → Option Int → Int → Hp → VK → Prop) (te : TE) (tl th tk : TO) : TE := fun σ H Q => te σ H fun x H1 => tl σ H1 fun l H2 => th σ H2 fun u H3 => tk σ H3 fun st H4 => ∃ c, st = some c ∧ r x l u c H4 Q
def pickL {α : Type} (xs : List α) (lo hi : Option Int) (st : Int) : List α := (sliceRange (sliceBounds lo hi (some st) xs.length).1 (sliceBounds lo hi (some st) xs.length).2.1 (sliceBounds lo hi (some st) xs.length).2.2).filterMap (xs[·]?)
theorem vals_filter {us : List V} {its : List Value} (r : Vals us its) : ∀ ix : List Nat, Vals (ix.filterMap (us[·]?)) (ix.filterMap (its[·]?))
  | [] => .nil
  | i :: ix => by
    cases e : us[i]? with
    | none => rw [List.filterMap_cons_none e, List.filterMap_cons_none (r.none_of e)]; exact vals_filter r ix
    | some x =>
      obtain ⟨u, hu, ru⟩ := r.get e
      rw [List.filterMap_cons_some e, List.filterMap_cons_some hu]
      exact .cons ru (vals_filter r ix)
theorem dpa_filter {K : PySem.W.Frag} {F : Hp} {us : List V} {ds : List PyData} (r : DqAll K F us ds) : ∀ ix : List Nat, DqAll K F (ix.filterMap (us[·]?)) (ix.filterMap (ds[·]?))
  | [] => .nil
  | i :: ix => by
    cases e : us[i]? with
    | none =>
      have e2 : ds[i]? = none := by
        rw [List.getElem?_eq_none_iff] at e ⊢
        rw [← dpa_len r]
        exact e
      rw [List.filterMap_cons_none e, List.filterMap_cons_none e2]
      exact dpa_filter r ix
    | some x =>
      obtain ⟨d, hu, ru⟩ := dpa_get' r e
      rw [List.filterMap_cons_some e, List.filterMap_cons_some hu]
      exact .cons ru (dpa_filter r ix)
theorem pickL_len {α β : Type} {xs : List α} {ys : List β} (h : xs.length = ys.length) (lo hi : Option Int) (st : Int) : (pickL xs lo hi st).length = (pickL ys lo hi st).length := by
  unfold pickL
  rw [h]
  generalize sliceRange _ _ _ = ix
  induction ix with
  | nil => rfl
  | cons i ix ih =>
    by_cases hi' : i < ys.length
    · rw [List.filterMap_cons_some (List.getElem?_eq_getElem (by omega)), List.filterMap_cons_some (List.getElem?_eq_getElem hi'), List.length_cons, List.length_cons, ih]
    · rw [List.filterMap_cons_none (List.getElem?_eq_none (by omega)), List.filterMap_cons_none (List.getElem?_eq_none (by omega)), ih]
/-- of a list: any step but 0, no more items than it has; of a tuple: the whole of it, back -/
def rSl3 (K : PySem.W.Frag) : V → Option Int → Option Int → Int → Hp → VK → Prop := fun x lo hi st H Q =>
  (∃ a us, x = .ref a ∧ SqL K H a us ∧ st ≠ 0 ∧ (pickL us lo hi st).length ≤ sizeLine ∧ ∀ p, H p = none → Q (.ref p) (upd H p (.lst (pickL us lo hi st)))) ∨
  (∃ a us, x = .ref a ∧ SqT K H a us ∧ lo = none ∧ hi = none ∧ st = -1 ∧ ∀ p, H p = none → Q (.ref p) (upd H p (.tup us.reverse)))
section
variable {X : Cx}
theorem isPart_none {v : Value} (h : IsPart v none) : v = .none := by
  cases h
  rfl
theorem sl3_both : SlR3 X (rSl3 X.K) := by
  intro pins s σ H x v vl vu vk lo hi st sl Q I rx hs pl pu pk h
  rcases h with ⟨a, us, rfl, hq, h0, hz, q⟩ | ⟨a, us, rfl, hq, rfl, rfl, rfl, q⟩
  · cases rx
    obtain ⟨its, r, pp, hz2⟩ := I.list hq
    have hlen := r.length
    refine ⟨"list", _, slot_list_getitem.lookup, pp.isList.typeIs, ?_⟩
    refine wpAny_getItem_list_slice pp.isList hs pl pu pk (fun e => h0 (Option.some.inj e)) ?_ (by rw [List.size_toArray]; omega)
    have e : slicePick its.toArray lo hi (some st) = (pickL its lo hi st).toArray := by
      unfold slicePick pickL
      rw [List.size_toArray]
      congr 1
      exact fm_congr fun i _ => List.getElem?_toArray
    rw [e]
    refine ⟨.ref s.heap.objs.size, _, I.laid (t' := s.toks) (o := .lst (pickL us lo hi st)) (fun b ob q => Heap.get?_push_of_some _ q) (Nat.le_refl _) ⟨hz, _, 0, ?_, Heap.get?_push_size _ rfl⟩, rfl, q _ (I.hok.fresh (Nat.le_refl _))⟩
    unfold pickL
    rw [hlen]
    exact vals_filter r _
  · cases rx
    obtain ⟨its, r, pp, hz2⟩ := I.tuple hq
    have hlen := r.length
    cases isPart_none pl
    cases isPart_none pu
    refine ⟨"tuple", _, PyProof.Rows.slot_tuple_getitem.lookup, pp.typeIs, ?_⟩
    refine getItem_tuple_back pp hs pk ?_ (by rw [List.size_toArray]; omega)
    refine ⟨.ref s.heap.objs.size, _, I.laid (t' := s.toks) (o := .tup us.reverse) (fun b ob q => Heap.get?_push_of_some _ q) (Nat.le_refl _) ⟨by rw [List.length_reverse]; exact hz2, _, r.reverse, _, Heap.get?_push_size _ rfl, rfl, _, rfl⟩, rfl, q _ (I.hok.fresh (Nat.le_refl _))⟩
variable {e : Expr} {lo hi st : Option Expr} {te : TE} {tl th tk : TO} {p2 pos : Pos}
theorem pe_slice3 {k : Expr} {r : V → Option Int → Option Int → Int → Hp → VK → Prop} (hr : SlR3 X r) (he : PE X e te) (hl : PO X lo tl) (hu : PO X hi th) (hk : PO X (some k) tk) : PE X (.Subscript e (.Slice lo hi (some k) p2) pos) (tSl3 r te tl th tk) := by
  constructor
  intro pins s σ H Q I h
  apply Subscript_
  apply thn (he.run pins s σ H _ I h)
  intro v s1 hv
  obtain ⟨x, H1, I1, r1, q1⟩ := hv
  apply wpAny_Slice
  apply thn (hl.run pins s1 σ H1 _ I1 q1)
  intro vl s2 hvl
  obtain ⟨l, H2, I2, pl, q2⟩ := hvl
  apply thn (hu.run pins s2 σ H2 _ I2 q2)
  intro vu s3 hvu
  obtain ⟨u, H3, I3, pu, q3⟩ := hvu
  apply thn (hk.run pins s3 σ H3 _ I3 q3)
  intro vk s4 hvk
  obtain ⟨c', H4, I4, pk, c, rfl, q4⟩ := hvk
  have I5 := I4.kept (h' := s4.heap.push { cls := .type "slice", data := .fields #[vl, vu, vk] }) (t' := s4.toks) fun b ob q => Heap.get?_push_of_some _ q
  obtain ⟨T', id', hT, ht, hg⟩ := hr pins _ σ H4 x v vl vu vk l u c s4.heap.objs.size Q I5 r1 (Heap.IsSliceOf.new ..) pl pu pk q4
  exact tail_any (ops := [v, .ref s4.heap.objs.size]) ht hT hg (by with_unfolding_all rfl)
end
def fSl3 (lo hi : Option Int) (st : Int) : F1 := fun a k => match a with
  | .list ds => st ≠ 0 ∧ (pickL ds lo hi st).length ≤ sizeLine ∧ k (.lst ((pickL ds lo hi st).map T.d))
  | .tuple ds => lo = none ∧ hi = none ∧ st = -1 ∧ k (.d (.tuple ds.reverse))
  | _ => False
def wSl3 (we : WE) (wl wh wk : WO) : WE := fun G k => we G fun x G1 => wl G1 fun lo G2 => wh G2 fun hi G3 => wk G3 fun st G4 => match st, datOf G4 x with
  | some c, some a => fSl3 lo hi c a fun r => k (.t r) G4
  | _, _ => False
theorem dpa_reverse {K : PySem.W.Frag} {F : Hp} : ∀ {us : List V} {ds : List PyData}, DqAll K F us ds → DqAll K F us.reverse ds.reverse
  | _, _, .nil => .nil
  | _, _, .cons q h => by
    rw [List.reverse_cons, List.reverse_cons]
    exact dpa_append (dpa_reverse h) (.cons q .nil)
section
variable {X : Cx} {K : PySem.W.Frag} {e k : Expr} {te : TE} {we : WE} {tl th tk : TO} {wl wh wk : WO}
theorem rd_sl3 (h : RD K te we) (hl : RDO K tl wl) (hh : RDO K th wh) (hs : RDO K tk wk) : RD K (tSl3 (rSl3 K) te tl th tk) (wSl3 we wl wh wk) := by
  intro P G ts σ vs H k Q x hw hq
  refine h P G ts σ vs H _ _ x hw fun y G1 v H1 x1 ho hk => ?_
  refine hl P G1 _ σ _ H1 _ _ x1 hk fun lo G2 H2 x2 hk => ?_
  refine hh P G2 _ σ _ H2 _ _ x2 hk fun hi G3 H3 x3 hk => ?_
  refine hs P G3 _ σ _ H3 _ _ x3 hk fun st G4 H4 x4 hk => ?_
  obtain ⟨F, As, B, x4⟩ := x4
  cases st with
  | none => exact hk.elim
  | some c =>
  cases e : datOf G4 y with
  | none =>
    have hk : (match datOf G4 y with
      | some a => fSl3 lo hi c a fun r => k (.t r) G4
      | none => False) := by
      revert hk
      show (match (generalizing := false) some c, datOf G4 y with
        | some c, some a => fSl3 lo hi c a fun r => k (.t r) G4
        | _, _ => False) → _
      rw [e]
      exact fun z => z.elim
    rw [e] at hk
    exact hk.elim
  | some a =>
    have hk : fSl3 lo hi c a fun r => k (.t r) G4 := by
      revert hk
      show (match (generalizing := false) some c, datOf G4 y with
        | some c, some a => fSl3 lo hi c a fun r => k (.t r) G4
        | _, _ => False) → _
      rw [e]
      exact fun z => z
    obtain ⟨F', B', x5, s5, r5⟩ := x4.dat ho e
    refine ⟨c, rfl, ?_⟩
    cases a with
    | list ds =>
      obtain ⟨p, us, rfl, h1, h2⟩ := r5.list x5.fh
      have hk : c ≠ 0 ∧ (pickL ds lo hi c).length ≤ sizeLine ∧ k (.t (.lst ((pickL ds lo hi c).map T.d))) G4 := hk
      have el : pickL us lo hi c = (sliceRange (sliceBounds lo hi (some c) ds.length).1 (sliceBounds lo hi (some c) ds.length).2.1 (sliceBounds lo hi (some c) ds.length).2.2).filterMap (us[·]?) := by
        unfold pickL
        rw [dpa_len h2]
      exact .inl ⟨p, us, rfl, SqL.of h1, hk.1, by rw [pickL_len (dpa_len h2)]; exact hk.2.1, fun q hn => hq (.t _) G4 _ _ (x5.newLst hn (by rw [el]; exact dpa_filter h2 _)) trivial hk.2.2⟩
    | tuple ds =>
      obtain ⟨p, us, ev, h1, h2⟩ := r5.tup x5.fh
      have hk : lo = none ∧ hi = none ∧ c = -1 ∧ k (.t (.d (.tuple ds.reverse))) G4 := hk
      exact .inr ⟨p, us, ev, h1, hk.1, hk.2.1, hk.2.2.1, fun q hn => hq (.t _) G4 _ _ (x5.newTup hn (dpa_reverse h2)) trivial hk.2.2.2⟩
    | none => exact hk.elim
    | bool _ => exact hk.elim
    | int _ => exact hk.elim
    | str _ => exact hk.elim
    | dict _ => exact hk.elim
theorem pd_sl3 {lo hi : Option Expr} {p2 pos : Pos} (he : PD X e te we) (hl : POD X lo tl wl) (hh : POD X hi th wh) (hk : POD X (some k) tk wk) : PD X (.Subscript e (.Slice lo hi (some k) p2) pos) (tSl3 (rSl3 X.K) te tl th tk) (wSl3 we wl wh wk) :=
  ⟨pe_slice3 sl3_both he.pe hl.po hh.po hk.po, rd_sl3 he.rd hl.rd hh.rd hk.rd⟩
theorem pickL_back {α : Type} (xs : List α) : pickL xs none none (-1) = xs.reverse := by
  unfold pickL
  rw [PySem.W.krv_bounds]
  show (sliceRange ((xs.length : Int) - 1) (-1) (-1)).filterMap (xs[·]?) = xs.reverse
  rw [PySem.W.krv_sliceRange, PySem.W.krv_range, List.filterMap_reverse]
  congr 1
  have h := PySem.W.krv_all xs.toArray
  simpa using h
end
end DL
end
section
set_option autoImplicit false
/-! DL6: comprehensions, statements. -/
namespace DL
open PySem PySem.Spec PyProof.Rows L2

/-! ### targets -/
abbrev WG := PyData → Gm → (Gm → Prop) → Prop
def RDG (K : PySem.W.Frag) (g : TG) (own : List Nat) (w : WG) : Prop := ∀ (P : Par) (G : Gm) (ts : List T) (σ : L2.St) (vs : List V) (H : Hp) (x : PyData) (v : V) (k : Gm → Prop) (Q : L2.St → Hp → Prop), Env K P G (.d x :: ts) σ (v :: vs) H → w x G k →
  (∀ G' σ' H', Env K P G' ts σ' vs H' → σ'.length = σ.length → (∀ j, j ∉ own → σ'[j]? = σ[j]?) → k G' → Q σ' H') → g v σ H Q
structure PGD (X : Cx) (tg : Expr) (g : TG) (own : List Nat) (w : WG) : Prop where
  pg : PG X tg g
  rd : RDG X.K g own w
abbrev WGs := List PyData → Gm → (Gm → Prop) → Prop
def RDGs (K : PySem.W.Frag) (g : TGs) (own : List Nat) (w : WGs) : Prop := ∀ (P : Par) (G : Gm) (ts : List T) (σ : L2.St) (vs : List V) (H : Hp) (xs : List PyData) (us : List V) (k : Gm → Prop) (Q : L2.St → Hp → Prop) (F : Hp) (As : Nat → ASet) (B : ASet), EnvX K P G ts σ vs H F As B → DqAll K F us xs → w xs G k →
  (∀ G' σ' H', Env K P G' ts σ' vs H' → σ'.length = σ.length → (∀ j, j ∉ own → σ'[j]? = σ[j]?) → k G' → Q σ' H') → g us σ H Q
structure PGsD (X : Cx) (es : List Expr) (g : TGs) (own : List Nat) (w : WGs) : Prop where
  pg : PGs X es g
  rd : RDGs X.K g own w
def wName (i : Nat) : WG := fun x G k => i < G.length ∧ k (G.set i (some (.d x)))
section
variable {K : PySem.W.Frag}
theorem EnvX.hb2 {P : Par} {G : Gm} {ts : List T} {σ : L2.St} {vs : List V} {H F : Hp} {As : Nat → ASet} {B : ASet} (x : EnvX K P G ts σ vs H F As B) : EnvX K { P with Hb := F } G ts σ vs H F As B :=
  ⟨Same.refl F, x.fh, x.fm, x.fmF, x.fmA, x.fmB, x.sl, x.tm, x.dj, x.dB, x.fA, x.fB, x.pn, x.len⟩
theorem EnvX.hb3 {P : Par} {G : Gm} {ts : List T} {σ : L2.St} {vs : List V} {H F F0 : Hp} {As : Nat → ASet} {B : ASet} (e : Same P.Hb F0) (x : EnvX K { P with Hb := F0 } G ts σ vs H F As B) : EnvX K P G ts σ vs H F As B :=
  ⟨e.trans x.hb, x.fh, x.fm, x.fmF, x.fmA, x.fmB, x.sl, x.tm, x.dj, x.dB, x.fA, x.fB, x.pn, x.len⟩
theorem Env.hb3 {P : Par} {G : Gm} {ts : List T} {σ : L2.St} {vs : List V} {H F0 : Hp} (e : Same P.Hb F0) (x : Env K { P with Hb := F0 } G ts σ vs H) : Env K P G ts σ vs H := by
  obtain ⟨F, As, B, x⟩ := x
  exact ⟨F, As, B, x.hb3 e⟩
theorem rdg_name (i : Nat) : RDG K (gName i) [i] (wName i) := by
  intro P G ts σ vs H x v k Q he hw hq
  obtain ⟨F, As, B, he⟩ := he
  obtain ⟨As', B', h2⟩ := he.store hw.1
  exact hq _ _ H ⟨F, As', B', h2⟩ (List.length_set ..) (fun j hj => List.getElem?_set_ne fun e => hj (by rw [← e]; exact List.mem_cons_self)) hw.2
def wTNil : WGs := fun xs G k => match xs with
  | [] => k G
  | _ => False
def wTCons (w : WG) (ws : WGs) : WGs := fun xs G k => match xs with
  | x :: r => w x G fun G' => ws r G' k
  | [] => False
theorem rdgs_nil : RDGs K gNil [] wTNil := by
  intro P G ts σ vs H xs us k Q F As B he hd hw hq
  match xs, us, hd, hw with
  | [], _, .nil, hw => exact ⟨rfl, hq _ _ H he.env rfl (fun _ _ => rfl) hw⟩
theorem rdgs_cons {g : TG} {gs : TGs} {own own2 : List Nat} {w : WG} {ws : WGs} (h : RDG K g own w) (h2 : RDGs K gs own2 ws) : RDGs K (gCons g gs) (own ++ own2) (wTCons w ws) := by
  intro P G ts σ vs H xs us k Q F As B he hd hw hq
  match xs, us, hd, hw with
  | x :: xs, v :: us, .cons d1 d2, hw =>
    refine ⟨v, us, rfl, h { P with Hb := F } G ts σ vs H x v _ _ (he.hb2.push d1).env hw fun G1 σ1 H1 he1 hl1 hs1 hk1 => ?_⟩
    obtain ⟨F1, As1, B1, he1⟩ := he1
    refine h2 P G1 ts σ1 vs H1 xs us k Q F1 As1 B1 (he1.hb3 he.hb) (dpa_mono he1.hb d2) hk1 fun G2 σ2 H2 he2 hl2 hs2 hk2 => ?_
    refine hq G2 σ2 H2 he2 (hl2.trans hl1) (fun j hj => ?_) hk2
    exact (hs2 j fun z => hj (List.mem_append_right _ z)).trans (hs1 j fun z => hj (List.mem_append_left _ z))
def wTTup (n : Nat) (ws : WGs) : WG := fun x G k => match itemsD x with
  | some xs => (match x with | .tuple _ => True | _ => False) ∧ xs.length = n ∧ ws xs G k
  | none => False
theorem rdg_tup {gs : TGs} {own : List Nat} {n : Nat} {ws : WGs} (h : RDGs K gs own ws) : RDG K (gTup K n gs) own (wTTup n ws) := by
  intro P G ts σ vs H x v k Q he hw hq
  obtain ⟨F, As, B, he⟩ := he
  have hd := he.head
  cases hd with
  | tup h1 h2 =>
    obtain ⟨_, hl, hw⟩ := (show True ∧ _ from hw)
    exact ⟨_, _, rfl, sqT_mono h1 he.fh, by rw [dpa_len h2]; exact hl, h P G ts σ vs H _ _ k Q F As B (he.pop rfl rfl) h2 hw hq⟩
  | lst h1 h2 => exact hw.1.elim
  | non => exact hw.elim
  | bl => exact hw.elim
  | int => exact hw.elim
  | str => exact hw.elim
end
section
variable {X : Cx} {pos : Pos} {e : Expr} {es : List Expr}
theorem pgd_name {i : Nat} {x : Str} (hN : X.N.Nodup) (hi : X.N[i]? = some x) (hx : Loc X.env.scope x) (hf : X.fn x = true ∨ X.env.scope.names.lookup x = some .local := by first | exact .inl rfl | exact .inr rfl | assumption) : PGD X (.Name x pos) (gName i) [i] (wName i) := ⟨pg_name hN hi hx hf, rdg_name i⟩
theorem pgsd_nil : PGsD X [] gNil [] wTNil := ⟨pgs_nil, rdgs_nil⟩
theorem pgsd_cons {g : TG} {gs : TGs} {own own2 : List Nat} {w : WG} {ws : WGs} (h : PGD X e g own w) (h2 : PGsD X es gs own2 ws) (hs : (assignEach (e :: es) X.env).map (·.2) = assign e X.env :: (assignEach es X.env).map (·.2) := by rfl) :
    PGsD X (e :: es) (gCons g gs) (own ++ own2) (wTCons w ws) := ⟨pgs_cons h.pg h2.pg hs, rdgs_cons h.rd h2.rd⟩
theorem pgd_tup {k : Nat} {gs : TGs} {own : List Nat} {ws : WGs} {n : Nat} (hc : X.calm = true) (h : PGsD X es gs own ws) (hn : (assignEach es X.env).length = n := by rfl) (hst : (assignEach es X.env).findIdx? (·.1) = none := by rfl) :
    PGD X (.Tuple es k pos) (gTup X.K n gs) own (wTTup n ws) := ⟨pg_tup hc h.pg hn hst, rdg_tup h.rd⟩
end

/-! ### a new thing on the top is put to the list below it -/
section
variable {K : PySem.W.Frag} {P : Par} {G : Gm} {ts : List T} {σ : L2.St} {vs : List V} {H F : Hp} {As : Nat → ASet} {B : ASet}
theorem EnvX.lstHead {acc : List T} {v : V} (x : EnvX K P G (.lst acc :: ts) σ (v :: vs) H F As B) : ∃ (D : Addr) (us : List V), v = .ref D ∧ H D = some (.lst us) ∧ us.length = acc.length ∧ B D := by
  cases x.tm with
  | cons h1 h2 h3 h4 h5 =>
    cases h1 with
    | lst q1 q2 q3 q4 q5 q6 => exact ⟨_, _, rfl, q1, q3.len.symm, h4 _ q5⟩
theorem EnvX.putOn {acc : List T} {y : T} {u : V} {D : Addr} (x : EnvX K P G (y :: .lst acc :: ts) σ (u :: .ref D :: vs) H F As B) :
    ∃ us, H D = some (.lst us) ∧ us.length = acc.length ∧ ∃ B', EnvX K P G (.lst (acc ++ [y]) :: ts) σ (.ref D :: vs) (upd H D (.lst (us ++ [u]))) F As B' := by
  cases x.tm with
  | cons h1 h2 h3 h4 h5 =>
    rename_i A1 A2
    cases h2 with
    | cons k1 k2 k3 k4 k5 =>
      rename_i C1 C2
      cases k1 with
      | lst q1 q2 q3 q4 q5 q6 =>
        rename_i us E
        have bD : B D := h5 _ (k4 _ q5)
        have n1 : ∀ b, A1 b → b ≠ D := fun b z e => h3 b z (by rw [e]; exact k4 _ q5)
        have n2 : ∀ b, C2 b → b ≠ D := fun b z e => k3 D q5 (by rw [← e]; exact z)
        have n3 : ∀ b, E b → b ≠ D := fun b z e => q4 (by rw [← e]; exact z)
        have nA : ∀ i b, As i b → b ≠ D := fun i b z e => x.dB i b z (by rw [e]; exact bD)
        have nF : ∀ b o, F b = some o → b ≠ D := fun b o z e => by
          rw [e, q2] at z
          cases z
        have nM : ∀ b o, P.Fm b = some o → b ≠ D := fun b o z e => x.fmB b o z (by rw [e]; exact bD)
        have sf := Same.refl F
        have bA : ∀ b, A1 b → F b = none := fun b z => (x.fB b (h4 b z)).1
        have bE : ∀ b, E b → F b = none := fun b z => (x.fB b (h5 b (k4 b (q6 b z)))).1
        have bC : ∀ b, C2 b → F b = none := fun b z => (x.fB b (h5 b (k5 b z))).1
        refine ⟨us, q1, q3.len.symm, B, x.hb, fun b o z => ?_, fun b o z => ?_, x.fmF, x.fmA, x.fmB, fun i t z => ?_, ?_, x.dj, x.dB, fun i b z => ?_, fun b z => ?_, x.pn, x.len⟩
        · rw [upd_ne (nF b o z)]
          exact x.fh b o z
        · rw [upd_ne (nM b o z)]
          exact x.fm b o z
        · obtain ⟨v, e, h⟩ := x.sl i t z
          exact ⟨v, e, h.frame sf (fun b z => upd_ne (nA i b z)) fun b z => (x.fA i b z).1⟩
        · have a1 : TRs K F (upd H D (.lst (us ++ [u]))) acc us E := q3.frame sf (fun b z => upd_ne (n3 b z)) bE
          have a2 : TR K F (upd H D (.lst (us ++ [u]))) y u A1 := h1.frame sf (fun b z => upd_ne (n1 b z)) bA
          have a3 : TRs K F (upd H D (.lst (us ++ [u]))) (acc ++ [y]) (us ++ [u]) (fun b => E b ∨ A1 b) := TRs.append a1 (TRs.one a2) (fun b z w => h3 b w (k4 b (q6 b z))) (fun b z => .inl z) fun b z => .inr z
          have a4 : TRs K F (upd H D (.lst (us ++ [u]))) ts vs C2 := k2.frame sf (fun b z => upd_ne (n2 b z)) bC
          refine .cons (A1 := fun b => b = D ∨ E b ∨ A1 b) (A2 := C2) (.lst upd_same q2 a3 (fun z => z.elim (fun z => n3 D z rfl) (fun z => n1 D z rfl)) (.inl rfl) fun b z => .inr z) a4 ?_ ?_ fun b z => h5 b (k5 b z)
          · rintro b (z | z | z) w
            · exact n2 b w z
            · exact k3 b (q6 b z) w
            · exact h3 b z (k5 b w)
          · rintro b (z | z | z)
            · rw [z]; exact bD
            · exact h5 b (k4 b (q6 b z))
            · exact h4 b z
        · rw [upd_ne (nA i b z)]
          exact x.fA i b z
        · by_cases e : b = D
          · subst e
            exact ⟨q2, by rw [upd_same]; exact fun e => nomatch e⟩
          · rw [upd_ne e]
            exact x.fB b z
theorem EnvX.takeT {y : Tm} {v : V} {t : T} {G' : Gm} (x : EnvX K P G (pushT y ts) σ (pushV y v vs) H F As B) (ho : AlOk σ y v) (e : takeOf G y = some (t, G')) : ∃ F' As' B', EnvX K P G' (t :: ts) σ (v :: vs) H F' As' B' ∧ Same F F' := by
  have e2 : takesOf G [y] = some ([t], G') := by
    rw [takesOf, takesOf]
    show (match takeOf G y with
      | some (y, G2) => some ([y], G2)
      | none => none) = _
    rw [e]
  obtain ⟨F', As', B', x', s⟩ := EnvX.takes (xs := [y]) (us := [v]) (ts := ts) (vs := vs) x ⟨ho, trivial⟩ e2
  exact ⟨F', As', B', x', s⟩
end

/-! ### comprehensions -/
def wipeG (G : Gm) : List Nat → Gm
  | [] => G
  | v :: vs => (wipeG G vs).set v none
theorem wipeG_len (G : Gm) : ∀ vs : List Nat, (wipeG G vs).length = G.length
  | [] => rfl
  | v :: vs => by rw [wipeG, List.length_set, wipeG_len G vs]
theorem wipeG_some {G : Gm} {i : Nat} {x : T} : ∀ {vs : List Nat}, (wipeG G vs)[i]? = some (some x) → G[i]? = some (some x) ∧ i ∉ vs
  | [], h => ⟨h, by simp⟩
  | v :: vs, h => by
    rw [wipeG] at h
    by_cases hi : v = i
    · subst hi
      by_cases hv : v < (wipeG G vs).length
      · rw [List.getElem?_set_self hv] at h
        cases h
      · rw [List.getElem?_eq_none (by rw [List.length_set]; omega)] at h
        cases h
    · rw [List.getElem?_set_ne hi] at h
      obtain ⟨h1, h2⟩ := wipeG_some h
      exact ⟨h1, fun hm => (List.mem_cons.mp hm).elim (fun e => hi e.symm) h2⟩
theorem wipe_get {σ : L2.St} {i : Nat} : ∀ {vs : List Nat}, i ∉ vs → (wipe σ vs)[i]? = σ[i]?
  | [], _ => rfl
  | v :: vs, h => by
    rw [wipe, List.getElem?_set_ne fun e => h (by rw [e]; exact List.mem_cons_self)]
    exact wipe_get fun z => h (List.mem_cons_of_mem _ z)
theorem wipe_at {σ : L2.St} {i : Nat} : ∀ {vs : List Nat}, i ∈ vs → i < σ.length → (wipe σ vs)[i]? = some none
  | v :: vs, h, hl => by
    rw [wipe]
    by_cases e : v = i
    · rw [e, List.getElem?_set_self (by rw [wipe_length]; exact hl)]
    · rw [List.getElem?_set_ne e]
      exact wipe_at ((List.mem_cons.mp h).elim (fun z => absurd z.symm e) id) hl
theorem wipe_same {σ σ' : L2.St} {vs : List Nat} (hl : σ'.length = σ.length) (h : ∀ j, j ∉ vs → σ'[j]? = σ[j]?) : wipe σ' vs = wipe σ vs := by
  apply List.ext_getElem?
  intro i
  by_cases hi : i ∈ vs
  · by_cases hl2 : i < σ.length
    · rw [wipe_at hi hl2, wipe_at hi (by omega)]
    · rw [List.getElem?_eq_none (by rw [wipe_length]; omega), List.getElem?_eq_none (by rw [wipe_length]; omega)]
  · rw [wipe_get hi, wipe_get hi, h i hi]
/-- behind a comprehension: its own names' slots hold what data they held -/
def keepD : Option (Option T) → Option T
  | some (some (.d x)) => some (.d x)
  | _ => none
def restG (G0 : Gm) (G : Gm) : List Nat → Gm
  | [] => G
  | v :: vs => (restG G0 G vs).set v (keepD G0[v]?)
theorem restG_len (G0 G : Gm) : ∀ vs : List Nat, (restG G0 G vs).length = G.length
  | [] => rfl
  | v :: vs => by rw [restG, List.length_set, restG_len G0 G vs]
theorem restG_some {G0 G : Gm} {i : Nat} {x : T} : ∀ {vs : List Nat}, (restG G0 G vs)[i]? = some (some x) → (G[i]? = some (some x) ∧ i ∉ vs) ∨ (i ∈ vs ∧ ∃ d, x = .d d ∧ G0[i]? = some (some (.d d)))
  | [], h => .inl ⟨h, by simp⟩
  | v :: vs, h => by
    rw [restG] at h
    by_cases hi : v = i
    · subst hi
      by_cases hv : v < (restG G0 G vs).length
      · rw [List.getElem?_set_self hv] at h
        have h := Option.some.inj h
        unfold keepD at h
        split at h
        · rename_i d e
          cases h
          exact .inr ⟨List.mem_cons_self, d, rfl, e⟩
        · cases h
      · rw [List.getElem?_eq_none (by rw [List.length_set]; omega)] at h
        cases h
    · rw [List.getElem?_set_ne hi] at h
      rcases restG_some h with ⟨h1, h2⟩ | ⟨h1, h2⟩
      · exact .inl ⟨h1, fun hm => (List.mem_cons.mp hm).elim (fun e => hi e.symm) h2⟩
      · exact .inr ⟨List.mem_cons_of_mem _ h1, h2⟩
def lcW (g : WG) (tt : WT) (te : WE) (own : List Nat) : List PyData → List T → Gm → (List T → Gm → Prop) → Prop
  | [], acc, G, k => k acc G
  | x :: xs, acc, G, k => g x G fun G2 => tt G2 fun b G3 => if b = true then te G3 fun y G4 => match takeOf G4 y with
      | some (ty, G5) => lcW g tt te own xs (acc ++ [ty]) (wipeG G5 own) k
      | none => False
    else lcW g tt te own xs acc (wipeG G3 own) k
def wLc (wI : WI) (g : WG) (tt : WT) (te : WE) (own : List Nat) : WE := fun G k => wI G fun items G1 => items.length ≤ sizeLine ∧ lcW g tt te own items [] (wipeG G1 own) fun acc G2 => k (.t (.lst acc)) (restG G1 G2 own)
section
variable {K : PySem.W.Frag} {P : Par} {G : Gm} {ts : List T} {σ : L2.St} {vs : List V} {H F : Hp} {As : Nat → ASet} {B : ASet}
theorem EnvX.wiped (x : EnvX K P G ts σ vs H F As B) (own : List Nat) : EnvX K P (wipeG G own) ts (wipe σ own) vs H F As B :=
  ⟨x.hb, x.fh, x.fm, x.fmF, x.fmA, x.fmB, fun i t q => by
    obtain ⟨h1, h2⟩ := wipeG_some q
    obtain ⟨v, e, h⟩ := x.sl i t h1
    exact ⟨v, by rw [wipe_get h2]; exact e, h⟩, x.tm, x.dj, x.dB, x.fA, x.fB, x.pn, by rw [wipeG_len, wipe_length]; exact x.len⟩
theorem EnvX.rest {σ' : L2.St} {G0 : Gm} {own : List Nat} (x : EnvX K P G ts (wipe σ own) vs H F As B) (h0 : ∀ (i : Nat) (d : PyData), G0[i]? = some (some (T.d d)) → ∃ v, σ[i]? = some (some v) ∧ Dq K F v d) : EnvX K P (restG G0 G own) ts σ vs H F As B :=
  ⟨x.hb, x.fh, x.fm, x.fmF, x.fmA, x.fmB, fun i t q => by
    rcases restG_some q with ⟨h1, h2⟩ | ⟨h1, d, rfl, h2⟩
    · obtain ⟨v, e, h⟩ := x.sl i t h1
      exact ⟨v, by rw [wipe_get h2] at e; exact e, h⟩
    · obtain ⟨v, e, h⟩ := h0 i d h2
      exact ⟨v, e, .d h⟩, x.tm, x.dj, x.dB, x.fA, x.fB, x.pn, by rw [restG_len]; exact x.len.trans (wipe_length ..)⟩
theorem rd_lc {wi : TI} {g : TG} {tt : TT} {te : TE} {wI : WI} {wg : WG} {wt : WT} {we : WE} {own own1 : List Nat} (hi : RDI K wi wI) (hg : RDG K g own1 wg) (hs : ∀ j ∈ own1, j ∈ own) (ht : RDT K tt wt) (he : RD K te we) : RD K (tLc wi g tt te own) (wLc wI wg wt we own) := by
  intro P G ts σ vs H k Q x hw hq
  refine hi P G ts σ vs H _ _ x hw fun items J G1 H1 F As B x1 hJ hk => ?_
  obtain ⟨hlen, hk⟩ := hk
  intro D hD
  have h0 : ∀ (i : Nat) (d : PyData), G1[i]? = some (some (T.d d)) → ∃ v, σ[i]? = some (some v) ∧ Dq K F v d := fun i d q => by
    obtain ⟨v, e, h⟩ := x1.sl i _ q
    cases h with
    | d h => exact ⟨v, e, h⟩
  have e0 : (wipe σ own) = wipe σ own := rfl
  -- the invariant
  refine ⟨fun i m H => m = items.length - i ∧ i ≤ items.length ∧ ∃ acc G2, acc.length ≤ i ∧ Env K { P with Hb := F } G2 (.lst acc :: ts) (wipe σ own) (.ref D :: vs) H ∧ lcW wg wt we own (items.drop i) acc G2 fun acc G2 => k (.t (.lst acc)) (restG G1 G2 own),
    ⟨items.length, rfl, Nat.zero_le _, [], wipeG G1 own, Nat.zero_le _, ?_, ?_⟩, ?_⟩
  · exact ⟨_, _, _, ((x1.hb2.wiped own).allocL (ts1 := []) (us := []) rfl rfl rfl hD)⟩
  · rw [List.drop_zero]
    exact hk
  rintro i m H2 ⟨rfl, hi2, acc, G2, hacc, x2, hw2⟩
  by_cases hlt : i < items.length
  · obtain ⟨x0, hx0⟩ : ∃ x0, items[i]? = some x0 := ⟨_, List.getElem?_eq_getElem hlt⟩
    have ed : items.drop i = x0 :: items.drop (i + 1) := by
      rw [List.drop_eq_getElem_cons hlt]
      rw [List.getElem?_eq_getElem hlt] at hx0
      rw [Option.some.inj hx0]
    rw [ed] at hw2
    obtain ⟨F2, As2, B2, x2⟩ := x2
    have fF : Same F H2 := x2.hb.trans x2.fh
    refine .inr ⟨hJ.go i H2 hlt fF, fun H' => ∃ acc G2, acc.length ≤ i + 1 ∧ Env K { P with Hb := F } G2 (.lst acc :: ts) (wipe σ own) (.ref D :: vs) H' ∧ lcW wg wt we own (items.drop (i + 1)) acc G2 fun acc G2 => k (.t (.lst acc)) (restG G1 G2 own), fun H' hN => ?_, fun v H' hy => ?_⟩
    · obtain ⟨acc', G', q1, q2, q3⟩ := hN
      exact ⟨items.length - (i + 1), by omega, rfl, hlt, acc', G', q1, q2, q3⟩
    · have step : ∀ (H' : Hp), Env K { P with Hb := F } G2 (.d x0 :: .lst acc :: ts) (wipe σ own) (v :: .ref D :: vs) H' → g v (wipe σ own) H' fun σ2 H2 => wipe σ2 own = wipe σ own ∧ tt σ2 H2 fun b H3 =>
          if b = true then te σ2 H3 fun y H4 => ∃ acc, H4 D = some (.lst acc) ∧ acc.length < sizeLine ∧ ∃ acc_1 G2, acc_1.length ≤ i + 1 ∧ Env K { P with Hb := F } G2 (.lst acc_1 :: ts) (wipe σ own) (.ref D :: vs) (upd H4 D (.lst (acc ++ [y]))) ∧ lcW wg wt we own (items.drop (i + 1)) acc_1 G2 fun acc G2 => k (.t (.lst acc)) (restG G1 G2 own)
          else ∃ acc G2, acc.length ≤ i + 1 ∧ Env K { P with Hb := F } G2 (.lst acc :: ts) (wipe σ own) (.ref D :: vs) H3 ∧ lcW wg wt we own (items.drop (i + 1)) acc G2 fun acc G2 => k (.t (.lst acc)) (restG G1 G2 own) := fun H' x3 => by
        refine hg _ G2 _ _ _ H' x0 v _ _ x3 hw2 fun G3 σ3 H3 x4 hl4 hs4 hk4 => ?_
        have ew : wipe σ3 own = wipe σ own := by
          rw [wipe_same (σ := wipe σ own) hl4 fun j hj => hs4 j fun z => hj (hs j z)]
          exact wipe_same (wipe_length ..) fun j hj => wipe_get hj
        refine ⟨ew, ht _ G3 _ _ _ H3 _ _ x4 hk4 fun b G4 H4 x5 hk5 => ?_⟩
        cases b with
        | true =>
          rw [if_pos rfl] at hk5 ⊢
          refine he _ G4 _ _ _ H4 _ _ x5 hk5 fun y G5 u H5 x6 ho hk6 => ?_
          have hk6 : (match takeOf G5 y with
            | some (ty, G6) => lcW wg wt we own (items.drop (i + 1)) (acc ++ [ty]) (wipeG G6 own) fun acc G2 => k (.t (.lst acc)) (restG G1 G2 own)
            | none => False) := hk6
          split at hk6
          · rename_i ty G6 ety
            obtain ⟨F6, As6, B6, x6⟩ := x6
            obtain ⟨F7, As7, B7, x7, s7⟩ := x6.takeT ho ety
            obtain ⟨us, e1, e2, B8, x8⟩ := x7.putOn
            refine ⟨us, e1, by omega, acc ++ [ty], wipeG G6 own, by rw [List.length_append]; simp; exact hacc, ?_, hk6⟩
            have x9 := x8.wiped own
            rw [ew] at x9
            exact x9.env
          · exact hk6.elim
        | false =>
          rw [if_neg Bool.false_ne_true] at hk5 ⊢
          obtain ⟨F6, As6, B6, x5⟩ := x5
          have x9 := x5.wiped own
          rw [ew] at x9
          exact ⟨acc, wipeG G4 own, by omega, x9.env, hk5⟩
      rcases hJ.yld i x0 H2 v H' hx0 fF hy with ⟨rfl, hd⟩ | ⟨p, us, ds, rfl, hn, rfl, rfl, hd⟩
      · exact step _ (x2.push (dp_mono x2.hb hd)).env
      · exact step _ (x2.newTup hn (dpa_mono x2.hb hd))
  · have ei : i = items.length := by omega
    subst ei
    obtain ⟨F2, As2, B2, x2⟩ := x2
    have hF : Same F F2 := x2.hb
    have fF : Same F H2 := x2.hb.trans x2.fh
    rw [List.drop_length] at hw2
    refine .inl ⟨hJ.stop H2 fF, hq (.t (.lst acc)) (restG G1 G2 own) (.ref D) H2 ?_ trivial hw2⟩
    have x3 := (x2.hb3 (P := P) x1.hb).rest (σ' := σ) (G0 := G1) fun i d q => by
      obtain ⟨v, e, h⟩ := h0 i d q
      exact ⟨v, e, dp_mono hF h⟩
    exact x3.env
end
/-- the tests of a comprehension -/
structure PTsD (X : Cx) (es : List Expr) (t : TT) (w : WT) : Prop where
  pe : PTs X es t
  rd : RDT X.K t w
def wYes : WT := fun G k => k true G
theorem ptsd_nil {X : Cx} : PTsD X [] tYes wYes := ⟨pts_nil, fun P G ts σ vs H k Q x hw hq => hq true G H x hw⟩
theorem ptsd_one {X : Cx} {c : Expr} {t : TT} {w : WT} (h : PTD X c t w) : PTsD X [c] t w := ⟨pts_one h.pe, h.rd⟩
section
variable {X : Cx}
theorem pd_lc {elt tg iter : Expr} {ifs : List Expr} {scope : Scope} {own : List (Str × Nat)} {own1 : List Nat} {pos : Pos} {wi : TI} {g : TG} {tt : TT} {te : TE} {wI : WI} {wg : WG} {wt : WT} {we : WE} (hc : X.calm = true) (hN : X.N.Nodup) (hi : PID X tg iter wi wI) (ok : BlkOk X.N X.env.scope scope own)
    (hg : ∀ (s : Shared) (H : Hp) (C : Addr) (cl : List (Str × Addr)) (fp : List Addr), PGD (X.blk s H scope (compEnvC scope cl C X.env) fp) tg g own1 wg) (ho : own1.all (fun j => (own.map (·.2)).contains j) = true)
    (ht : ∀ (s : Shared) (H : Hp) (C : Addr) (cl : List (Str × Addr)) (fp : List Addr), PTsD (X.blk s H scope (compEnvC scope cl C X.env) fp) ifs tt wt)
    (he : ∀ (s : Shared) (H : Hp) (C : Addr) (cl : List (Str × Addr)) (fp : List Addr), PD (X.blk s H scope (compEnvC scope cl C X.env) fp) elt te we) (hs : ∀ x, foldedSetIterable iter X.env x = pure x := by intro _; rfl) :
    PD X (.ListComp elt [⟨tg, iter, ifs, 0⟩] scope pos) (tLc wi g tt te (own.map (·.2))) (wLc wI wg wt we (own.map (·.2))) := by
  refine ⟨pe_lc hc hN hi.pi ok (fun s H C cl fp => (hg s H C cl fp).pg) (fun s H C cl fp => (ht s H C cl fp).pe) (fun s H C cl fp => (he s H C cl fp).pe) hs, ?_⟩
  refine rd_lc hi.rd (hg X.s_0 (fun _ => none) 0 [] []).rd (fun j hj => ?_) (ht X.s_0 (fun _ => none) 0 [] []).rd (he X.s_0 (fun _ => none) 0 [] []).rd
  have := List.all_eq_true.mp ho j hj
  exact List.contains_iff_mem.mp this
end
end DL
end
section
set_option autoImplicit false
/-! DL7: statements, lists that change. -/
namespace DL
open PySem PySem.Spec PyProof.Rows L2

structure DEnds where
  nx : Gm → Prop
  rt : Tm → Gm → Prop
  bk : Gm → Prop := fun _ => False
  ct : Gm → Prop := fun _ => False
abbrev WS := DEnds → Gm → Prop
def RDS (K : PySem.W.Frag) (t : TS) (w : WS) : Prop := ∀ (P : Par) (G : Gm) (ts : List T) (σ : L2.St) (vs : List V) (H : Hp) (D : DEnds) (E : Ends), Env K P G ts σ vs H → w D G →
  (∀ G' σ' H', Env K P G' ts σ' vs H' → D.nx G' → E.nx σ' H') →
  (∀ x G' v σ' H', Env K P G' (pushT x ts) σ' (pushV x v vs) H' → AlOk σ' x v → D.rt x G' → E.rt v H') →
  (∀ G' σ' H', Env K P G' ts σ' vs H' → D.bk G' → E.bk σ' H') →
  (∀ G' σ' H', Env K P G' ts σ' vs H' → D.ct G' → E.ct σ' H') → t E σ H
structure PSD (X : Cx) (st : Stmt) (t : TS) (w : WS) : Prop where
  ps : PS X st t
  rd : RDS X.K t w
structure PSsD (X : Cx) (st : List Stmt) (t : TS) (w : WS) : Prop where
  ps : PSs X st t
  rd : RDS X.K t w

def wNext : WS := fun D G => D.nx G
def wSeq (t u : WS) : WS := fun D G => t { D with nx := u D } G
def wBreak : WS := fun D G => D.bk G
def wCont : WS := fun D G => D.ct G
def wExpr (w : WE) : WS := fun D G => w G fun _ G1 => D.nx G1
def wRet (w : WE) : WS := fun D G => w G D.rt
def wRetN : WS := fun D G => D.rt (.t (.d .none)) G
def wIf (c : WT) (a b : WS) : WS := fun D G => c G fun v G1 => if v = true then a D G1 else b D G1
def putT (i : Nat) (x : Tm) (G : Gm) (k : Gm → Prop) : Prop := match x with
  | .t y => i < G.length ∧ k (G.set i (some y))
  | .al j => match G[j]? with
    | some (some (.ro ns)) => i < G.length ∧ k (G.set i (some (.ro ns)))
    | some (some t) => i < G.length ∧ k ((G.set j none).set i (some t))
    | _ => False
def wSet (i : Nat) (w : WE) : WS := fun D G => w G fun x G1 => putT i x G1 D.nx
def wAsg (w : WE) (g : WG) : WS := fun D G => w G fun x G1 => match frzOf G1 x with
  | some (d, G2) => g d G2 D.nx
  | none => False
def whileW (c : WT) (b : WS) : Nat → DEnds → Gm → Prop
  | 0, _, _ => False
  | n + 1, D, G => c G fun v G1 => if v = true then b { nx := whileW c b n D, rt := D.rt, bk := D.nx, ct := whileW c b n D } G1 else D.nx G1
def wWhile (c : WT) (b : WS) : WS := fun D G => ∃ n, whileW c b n D G
def forW (g : WG) (b : WS) : List PyData → DEnds → Gm → Prop
  | [], D, G => D.nx G
  | x :: xs, D, G => g x G fun G1 => b { nx := forW g b xs D, rt := D.rt, bk := D.nx, ct := forW g b xs D } G1
def wFor (wI : WI) (g : WG) (b : WS) : WS := fun D G => wI G fun items G1 => forW g b items D G1

section
variable {K : PySem.W.Frag} {t u : TS} {wt wu : WS} {te : TE} {we : WE}
theorem rds_next : RDS K tNext wNext := fun P G ts σ vs H D E x hw nx _ _ _ => nx G σ H x hw
theorem rds_break : RDS K tBreak wBreak := fun P G ts σ vs H D E x hw _ _ bk _ => bk G σ H x hw
theorem rds_cont : RDS K tCont wCont := fun P G ts σ vs H D E x hw _ _ _ ct => ct G σ H x hw
theorem rds_seq (h : RDS K t wt) (h2 : RDS K u wu) : RDS K (tSeq t u) (wSeq wt wu) := by
  intro P G ts σ vs H D E x hw nx rt bk ct
  exact h P G ts σ vs H { D with nx := wu D } { E with nx := u E } x hw (fun G1 σ1 H1 x1 hk => h2 P G1 ts σ1 vs H1 D E x1 hk nx rt bk ct) rt bk ct
theorem rds_expr (h : RD K te we) : RDS K (tDrop te) (wExpr we) := by
  intro P G ts σ vs H D E x hw nx rt bk ct
  refine h P G ts σ vs H _ _ x hw fun y G1 v H1 x1 ho hk => nx G1 σ H1 ?_ hk
  cases y with
  | t y => exact x1.pop
  | al i => exact x1
theorem rds_ret (h : RD K te we) : RDS K (tRet te) (wRet we) := by
  intro P G ts σ vs H D E x hw nx rt bk ct
  exact h P G ts σ vs H _ _ x hw fun y G1 v H1 x1 ho hk => rt y G1 v σ H1 x1 ho hk
theorem rds_retN : RDS K tRetN wRetN := fun P G ts σ vs H D E x hw _ rt _ _ => rt (.t (.d .none)) G .non σ H x.pushN trivial hw
theorem rds_if {c : TT} {wc : WT} (hc : RDT K c wc) (h : RDS K t wt) (h2 : RDS K u wu) : RDS K (tIfS c t u) (wIf wc wt wu) := by
  intro P G ts σ vs H D E x hw nx rt bk ct
  refine hc P G ts σ vs H _ _ x hw fun b G1 H1 x1 hk => ?_
  cases b with
  | true =>
    rw [if_pos rfl] at hk ⊢
    exact h P G1 ts σ vs H1 D E x1 hk nx rt bk ct
  | false =>
    rw [if_neg Bool.false_ne_true] at hk ⊢
    exact h2 P G1 ts σ vs H1 D E x1 hk nx rt bk ct
theorem put_ok {P : Par} {G : Gm} {ts : List T} {σ : L2.St} {vs : List V} {H : Hp} {i : Nat} {y : Tm} {v : V} {k : Gm → Prop} (x : Env K P G (pushT y ts) σ (pushV y v vs) H) (ho : AlOk σ y v) (hk : putT i y G k) :
    ∃ G', Env K P G' ts (σ.set i (some v)) vs H ∧ k G' := by
  obtain ⟨F, As, B, x⟩ := x
  cases y with
  | t y =>
    obtain ⟨h1, h2⟩ := (show _ ∧ _ from hk)
    obtain ⟨As', B', x2⟩ := x.store h1
    exact ⟨_, x2.env, h2⟩
  | al j =>
    have ho : σ[j]? = some (some v) := ho
    have hk : (match G[j]? with
      | some (some (.ro ns)) => i < G.length ∧ k (G.set i (some (.ro ns)))
      | some (some t) => i < G.length ∧ k ((G.set j none).set i (some t))
      | _ => False) := hk
    split at hk
    · rename_i ns e
      obtain ⟨v', e1, q⟩ := x.sl j _ e
      rw [ho] at e1
      cases e1
      cases q with
      | ro q =>
        have x2 : EnvX K P G (.ro ns :: ts) σ (.ref _ :: vs) H F As B := x.tmps (.cons (A1 := fun _ => False) (A2 := B) (.ro q) x.tm (fun _ z => z.elim) (fun _ z => z.elim) fun _ z => z)
        obtain ⟨As', B', x3⟩ := x2.store hk.1
        exact ⟨_, x3.env, hk.2⟩
    · rename_i t _ e
      obtain ⟨v', As', B', e1, x2⟩ := x.take e
      rw [ho] at e1
      cases e1
      obtain ⟨As2, B2, x3⟩ := x2.store (i := i) (by rw [List.length_set]; exact hk.1)
      exact ⟨_, x3.env, hk.2⟩
    · exact hk.elim
theorem rds_set {i : Nat} (h : RD K te we) : RDS K (tAsg te (gName i)) (wSet i we) := by
  intro P G ts σ vs H D E x hw nx rt bk ct
  refine h P G ts σ vs H _ _ x hw fun y G1 v H1 x1 ho hk => ?_
  obtain ⟨G2, x2, hk⟩ := put_ok x1 ho hk
  exact nx G2 _ H1 x2 hk
theorem rds_asg {g : TG} {own : List Nat} {wg : WG} (h : RD K te we) (hg : RDG K g own wg) : RDS K (tAsg te g) (wAsg we wg) := by
  intro P G ts σ vs H D E x hw nx rt bk ct
  refine h P G ts σ vs H _ _ x hw fun y G1 v H1 x1 ho hk => ?_
  have hk : (match frzOf G1 y with
  | some (d, G2) => wg d G2 D.nx
  | none => False) := hk
  split at hk
  · rename_i d G2 e
    obtain ⟨F, As, B, x1⟩ := x1
    obtain ⟨F', As', B', x2, _, r2⟩ := x1.frz ho e
    exact hg P G2 ts σ vs H1 d v _ _ (x2.push r2).env hk fun G3 σ3 H3 x3 _ _ hk3 => nx G3 σ3 H3 x3 hk3
  · exact hk.elim
theorem rds_while {c : TT} {wc : WT} (hc : RDT K c wc) (hb : RDS K t wt) : RDS K (tWhile c t) (wWhile wc wt) := by
  intro P G ts σ vs H D E x hw nx rt bk ct
  obtain ⟨n, hw⟩ := hw
  refine ⟨fun m σ' H' => ∃ G', Env K P G' ts σ' vs H' ∧ whileW wc wt m D G', ⟨n, G, x, hw⟩, ?_⟩
  rintro m σ1 H1 ⟨G1, x1, hw1⟩
  cases m with
  | zero => exact hw1.elim
  | succ m =>
    refine hc P G1 ts σ1 vs H1 _ _ x1 hw1 fun b G2 H2 x2 hk => ?_
    cases b with
    | true =>
      rw [if_pos rfl] at hk ⊢
      refine ⟨fun σ' H' => ∃ G', Env K P G' ts σ' vs H' ∧ whileW wc wt m D G', fun σ' H' h => ⟨m, Nat.lt_succ_self m, h⟩, ?_⟩
      exact hb P G2 ts σ1 vs H2 _ _ x2 hk (fun G3 σ3 H3 x3 h3 => ⟨G3, x3, h3⟩) rt (fun G3 σ3 H3 x3 h3 => nx G3 σ3 H3 x3 h3) fun G3 σ3 H3 x3 h3 => ⟨G3, x3, h3⟩
    | false =>
      rw [if_neg Bool.false_ne_true] at hk ⊢
      exact nx G2 σ1 H2 x2 hk
theorem rds_for {wi : TI} {g : TG} {wI : WI} {own : List Nat} {wg : WG} (hi : RDI K wi wI) (hg : RDG K g own wg) (hb : RDS K t wt) : RDS K (tFor wi g t) (wFor wI wg wt) := by
  intro P G ts σ vs H D E x hw nx rt bk ct
  refine hi P G ts σ vs H _ _ x hw fun items J G1 H1 F As B x1 hJ hk => ?_
  refine ⟨fun i m σ' H' => m = items.length - i ∧ i ≤ items.length ∧ ∃ G', Env K { P with Hb := F } G' ts σ' vs H' ∧ forW wg wt (items.drop i) D G', ⟨items.length, rfl, Nat.zero_le _, G1, x1.hb2.env, by rw [List.drop_zero]; exact hk⟩, ?_⟩
  rintro i m σ2 H2 ⟨rfl, hi2, G2, x2, hw2⟩
  obtain ⟨F2, As2, B2, x2⟩ := x2
  have fF : Same F H2 := x2.hb.trans x2.fh
  by_cases hlt : i < items.length
  · have hx0 : items[i]? = some items[i] := List.getElem?_eq_getElem hlt
    rw [List.drop_eq_getElem_cons hlt] at hw2
    refine .inr ⟨hJ.go i H2 hlt fF, fun σ' H' => ∃ G', Env K { P with Hb := F } G' ts σ' vs H' ∧ forW wg wt (items.drop (i + 1)) D G', fun σ' H' h => ⟨items.length - (i + 1), by omega, rfl, hlt, h⟩, fun v H' hy => ?_⟩
    have step : ∀ H', Env K { P with Hb := F } G2 (.d items[i] :: ts) σ2 (v :: vs) H' → g v σ2 H' fun σ2 H2 => t { E with nx := fun σ' H' => ∃ G', Env K { P with Hb := F } G' ts σ' vs H' ∧ forW wg wt (items.drop (i + 1)) D G', ct := fun σ' H' => ∃ G', Env K { P with Hb := F } G' ts σ' vs H' ∧ forW wg wt (items.drop (i + 1)) D G', bk := E.nx } σ2 H2 := fun H' x3 => by
      refine hg _ G2 ts σ2 vs H' _ v _ _ x3 hw2 fun G4 σ4 H4 x4 _ _ hk4 => ?_
      exact hb _ G4 ts σ4 vs H4 _ _ x4 hk4 (fun G5 σ5 H5 x5 h5 => ⟨G5, x5, h5⟩) (fun y G5 u σ5 H5 x5 ho h5 => rt y G5 u σ5 H5 (x5.hb3 x1.hb) ho h5) (fun G5 σ5 H5 x5 h5 => nx G5 σ5 H5 (x5.hb3 x1.hb) h5) fun G5 σ5 H5 x5 h5 => ⟨G5, x5, h5⟩
    rcases hJ.yld i _ H2 v H' hx0 fF hy with ⟨rfl, hd⟩ | ⟨p, us, ds, rfl, hn, rfl, ex, hd⟩
    · exact step _ (x2.push (dp_mono x2.hb hd)).env
    · rw [ex] at step
      exact step _ (x2.newTup hn (dpa_mono x2.hb hd))
  · have ei : i = items.length := by omega
    subst ei
    rw [List.drop_length] at hw2
    exact .inl ⟨hJ.stop H2 fF, nx G2 σ2 H2 (x2.hb3 x1.hb).env hw2⟩
end
section
variable {X : Cx} {st : Stmt} {rest : List Stmt} {t u : TS} {wt wu : WS} {e : Expr} {te : TE} {we : WE} {pos : Pos}
theorem pssd_nil : PSsD X [] tNext wNext := ⟨pss_nil, rds_next⟩
theorem pssd_cons (h : PSD X st t wt) (h2 : PSsD X rest u wu) : PSsD X (st :: rest) (tSeq t u) (wSeq wt wu) := ⟨pss_cons h.ps h2.ps, rds_seq h.rd h2.rd⟩
theorem pssd_one (h : PSD X st t wt) : PSsD X [st] t wt := ⟨pss_one h.ps, h.rd⟩
theorem psd_pass : PSD X (.Pass pos) tNext wNext := ⟨ps_pass, rds_next⟩
theorem psd_break : PSD X (.Break pos) tBreak wBreak := ⟨ps_break, rds_break⟩
theorem psd_continue : PSD X (.Continue pos) tCont wCont := ⟨ps_continue, rds_cont⟩
theorem psd_expr (h : PD X e te we) (hs : swapsWith e none pos.line X.env = pure false := by rfl) : PSD X (.Expr e pos) (tDrop te) (wExpr we) := ⟨ps_expr h.pe hs, rds_expr h.rd⟩
theorem psd_ret (h : PD X e te we) : PSD X (.Return (some e) pos) (tRet te) (wRet we) := ⟨ps_ret h.pe, rds_ret h.rd⟩
theorem psd_retN : PSD X (.Return none pos) tRetN wRetN := ⟨ps_retN, rds_retN⟩
theorem psd_if {c : Expr} {a b : List Stmt} {tc : TT} {wc : WT} (hc : PTD X c tc wc) (h : PSsD X a t wt) (h2 : PSsD X b u wu) : PSD X (.If c a b pos) (tIfS tc t u) (wIf wc wt wu) := ⟨ps_if hc.pe h.ps h2.ps, rds_if hc.rd h.rd h2.rd⟩
theorem psd_set {i : Nat} {x : Str} {pos' : Pos} (hN : X.N.Nodup) (hi : X.N[i]? = some x) (hx : Loc X.env.scope x) (he : PD X e te we) (hs : swapsWith e (some (.Name x pos')) pos.line X.env = pure false := by rfl) (hf : X.fn x = true ∨ X.env.scope.names.lookup x = some .local := by first | exact .inl rfl | exact .inr rfl | assumption) :
    PSD X (.Assign [.Name x pos'] e pos) (tAsg te (gName i)) (wSet i we) := ⟨ps_set hN hi hx he.pe hs hf, rds_set he.rd⟩
theorem psd_asg {tg : Expr} {g : TG} {own : List Nat} {wg : WG} (he : PD X e te we) (hg : PGD X tg g own wg) (hs : swapsWithSole [tg] e pos.line X.env = pure false := by rfl) (hw : swappedStores [tg] e X.env = pure none := by rfl)
    (h1 : (assignEach [tg] X.env).map (·.2) = [assign tg X.env] := by rfl) : PSD X (.Assign [tg] e pos) (tAsg te g) (wAsg we wg) := ⟨ps_asg he.pe hg.pg hs hw h1, rds_asg he.rd hg.rd⟩
theorem psd_while {c : Expr} {body : List Stmt} {tc : TT} {wc : WT} (hp : PassesOwn (model X.prog X.w) X.A X.env X.xe) (hc : PTD X c tc wc) (hb : PSsD X body t wt) : PSD X (.While c body [] pos) (tWhile tc t) (wWhile wc wt) := ⟨ps_while hp hc.pe hb.ps, rds_while hc.rd hb.rd⟩
theorem psd_for {tg iter : Expr} {body : List Stmt} {wi : TI} {g : TG} {wI : WI} {own : List Nat} {wg : WG} (hp : PassesOwn (model X.prog X.w) X.A X.env X.xe) (hc : X.calm = true) (hi : PID X tg iter wi wI) (hg : PGD X tg g own wg) (hb : PSsD X body t wt) (hs : ∀ x, foldedSetIterable iter X.env x = pure x := by intro _; rfl) : PSD X (.For tg iter body [] pos) (tFor wi g t) (wFor wI wg wt) :=
  ⟨ps_for hp hc hi.pi hg.pg hb.ps hs, rds_for hi.rd hg.rd hb.rd⟩
/-- name = [..] on one line -/
theorem psd_setLc {i : Nat} {y : Str} {py : Pos} {elt tg iter : Expr} {ifs : List Expr} {scope : Scope} {own : List (Str × Nat)} {own1 : List Nat} {spos : Pos} {wi : TI} {g : TG} {tt : TT} {te' : TE} {wI : WI} {wg : WG} {wt' : WT} {we' : WE} (hc : X.calm = true) (hN : X.N.Nodup) (hy : X.N[i]? = some y) (hyl : X.env.scope.names.lookup y = some .local)
    (hsw : swapsWith (.ListComp elt [⟨tg, iter, ifs, 0⟩] scope pos) (some (.Name y py)) spos.line X.env = pure true) (hi : PID X tg iter wi wI) (ok : BlkOk X.N X.env.scope scope own)
    (hg : ∀ (s : Shared) (H : Hp) (C : Addr) (cl : List (Str × Addr)) (fp : List Addr), PGD (X.blk s H scope (compEnvC scope cl C X.env) fp) tg g own1 wg) (ho : own1.all (fun j => (own.map (·.2)).contains j) = true)
    (ht : ∀ (s : Shared) (H : Hp) (C : Addr) (cl : List (Str × Addr)) (fp : List Addr), PTsD (X.blk s H scope (compEnvC scope cl C X.env) fp) ifs tt wt')
    (he : ∀ (s : Shared) (H : Hp) (C : Addr) (cl : List (Str × Addr)) (fp : List Addr), PD (X.blk s H scope (compEnvC scope cl C X.env) fp) elt te' we') (hs : ∀ x, foldedSetIterable iter X.env x = pure x := by intro _; rfl) :
    PSD X (.Assign [.Name y py] (.ListComp elt [⟨tg, iter, ifs, 0⟩] scope pos) spos) (tAsg (tLc wi g tt te' (own.map (·.2))) (gName i)) (wSet i (wLc wI wg wt' we' (own.map (·.2)))) := by
  refine ⟨ps_setLc hc hN hy hyl hsw hi.pi ok (fun s H C cl fp => (hg s H C cl fp).pg) (fun s H C cl fp => (ht s H C cl fp).pe) (fun s H C cl fp => (he s H C cl fp).pe) hs, rds_set ?_⟩
  refine rd_lc hi.rd (hg X.s_0 (fun _ => none) 0 [] []).rd (fun j hj => ?_) (ht X.s_0 (fun _ => none) 0 [] []).rd (he X.s_0 (fun _ => none) 0 [] []).rd
  exact List.contains_iff_mem.mp (List.all_eq_true.mp ho j hj)
end
/-! ### lists that change -/
section
variable {K : PySem.W.Frag} {P : Par} {G : Gm} {ts : List T} {σ : L2.St} {vs : List V} {H F : Hp} {As : Nat → ASet} {B : ASet}
/-- the list of a slot, opened -/
theorem EnvX.slot {i : Nat} {xs : List T} (x : EnvX K P G ts σ vs H F As B) (hi : G[i]? = some (some (.lst xs))) : ∃ (a : Addr) (us : List V) (A : ASet), σ[i]? = some (some (.ref a)) ∧ H a = some (.lst us) ∧ F a = none ∧ TRs K F H xs us A ∧ ¬ A a ∧ As i a ∧ ∀ b, A b → As i b := by
  obtain ⟨v, e, h⟩ := x.sl i _ hi
  cases h with
  | lst h1 h2 h3 h4 h5 h6 => exact ⟨_, _, _, e, h1, h2, h3, h4, h5, h6⟩
/-- the list of a slot is replaced; what is put may have come from the stack's top -/
theorem EnvX.relist {i : Nat} {xs ys : List T} {ws : List V} {a : Addr} {C B' : ASet} {ts' : List T} {vs' : List V} (x : EnvX K P G ts σ vs H F As B) (hi : G[i]? = some (some (.lst xs))) (ev : σ[i]? = some (some (.ref a))) (hA : As i a)
    (hy : TRs K F H ys ws C) (hC : ∀ b, C b → (As i b ∧ b ≠ a) ∨ B b) (hts : TRs K F H ts' vs' B') (hB : ∀ b, B' b → B b) (hd : ∀ b, C b → ¬ B' b) :
    ∃ As', EnvX K P (G.set i (some (.lst ys))) ts' σ vs' (upd H a (.lst ws)) F As' B' := by
  have fa : F a = none := (x.fA i a hA).1
  have nB : ∀ b, B b → b ≠ a := fun b z e => x.dB i a hA (by rw [← e]; exact z)
  have nC : ∀ b, C b → b ≠ a := fun b z => (hC b z).elim (·.2) (nB b)
  refine x.change (t := .lst xs) (v := .ref a) (A1 := fun b => b = a ∨ C b) hi ev (fun b hb => upd_ne fun e => hb (by rw [e]; exact hA)) ?_ ?_ hts hB ?_ ?_
  · refine .lst upd_same fa (hy.frame (Same.refl F) (fun b z => upd_ne (nC b z)) fun b z => ?_) (fun z => nC a z rfl) (.inl rfl) fun b z => .inr z
    rcases hC b z with z | z
    · exact (x.fA i b z.1).1
    · exact (x.fB b z).1
  · rintro b (z | z)
    · rw [z]; exact .inl hA
    · exact (hC b z).imp (·.1) id
  · rintro b (z | z) w
    · exact nB b (hB b w) z
    · exact hd b z w
  · intro b z e
    by_cases hb : b = a
    · rw [hb, upd_same] at e
      cases e
    · rw [upd_ne hb] at e
      exact (x.fA i b z).2 e
end
theorem ixN_lt {n : Nat} {i : Int} {j : Nat} (h : ixN n i = some j) : j < n := (ixN_seq h).2.1
/-- xs.append(e), xs a slot's list -/
def wApp (s : Nat) (we : WE) : WE := fun G k => we G fun x G1 => match takeOf G1 x with
  | some (y, G2) => match G2[s]? with
    | some (some (.lst ts)) => ts.length < sizeLine ∧ k (.t (.d .none)) (G2.set s (some (.lst (ts ++ [y]))))
    | _ => False
  | none => False
/-- xs.pop() -/
def wPop (s : Nat) : WE := fun G k => match G[s]? with
  | some (some (.lst ts)) => match ts[ts.length - 1]? with
    | some (.d x) => k (.t (.d x)) (G.set s (some (.lst ts.dropLast)))
    | _ => False
  | _ => False
/-- xs.pop(i) -/
def wPopAt (s : Nat) (wi : WE) : WE := fun G k => wi G fun y G1 => match y with
  | .t (.d (.int i)) => match G1[s]? with
    | some (some (.lst ts)) => small62 i ∧ match ixN ts.length i with
      | some j => match ts[j]? with
        | some (.d x) => k (.t (.d x)) (G1.set s (some (.lst (ts.eraseIdx j))))
        | _ => False
      | none => False
    | _ => False
  | _ => False
/-- xs[i] = e -/
def wSetIx (s : Nat) (we wi : WE) : WS := fun D G => we G fun x G1 => wi G1 fun y G2 => match y with
  | .t (.d (.int i)) => match takeOf G2 x with
    | some (z, G3) => match G3[s]? with
      | some (some (.lst ts)) => match ixN ts.length i with
        | some j => D.nx (G3.set s (some (.lst (ts.set j z))))
        | none => False
      | _ => False
    | none => False
  | _ => False
section
variable {K : PySem.W.Frag} {te ti : TE} {we wi : WE}
/-- the value of a slot, for a receiver -/
theorem slot_val {P : Par} {G : Gm} {ts : List T} {σ : L2.St} {vs : List V} {H F : Hp} {As : Nat → ASet} {B : ASet} {s : Nat} {xs : List T} (x : EnvX K P G ts σ vs H F As B) (h : G[s]? = some (some (.lst xs))) : ∃ a us, σ[s]? = some (some (.ref a)) ∧ H a = some (.lst us) := by
  obtain ⟨a, us, A, e, h1, _⟩ := x.slot h
  exact ⟨a, us, e, h1⟩
theorem rd_app {s : Nat} (h : RD K te we) : RD K (tBM K "list" rAppend (tVar s) (tCons te tNil)) (fun G k => (match G[s]? with | some (some (.lst _)) => True | _ => False) ∧ wApp s we G k) := by
  intro P G ts σ vs H k Q x hw hq
  obtain ⟨hs, hw⟩ := hw
  obtain ⟨xs0, hs⟩ : ∃ xs0, G[s]? = some (some (.lst xs0)) := by
    split at hs
    · rename_i xs0 e
      exact ⟨xs0, e⟩
    · exact hs.elim
  obtain ⟨F0, As0, B0, x0⟩ := id x
  obtain ⟨a, us0, ea, h0⟩ := slot_val x0 hs
  refine ⟨.ref a, ea, .inl ⟨rfl, _, SqL.of h0⟩, ?_⟩
  refine h P G ts σ vs H _ _ x hw fun y G1 v H1 x1 ho hk => ?_
  have hk : (match takeOf G1 y with
  | some (y, G2) => match G2[s]? with
    | some (some (.lst ts)) => ts.length < sizeLine ∧ k (.t (.d .none)) (G2.set s (some (.lst (ts ++ [y]))))
    | _ => False
  | none => False) := hk
  split at hk
  · rename_i z G2 e
    obtain ⟨F, As, B, x1⟩ := x1
    obtain ⟨F2, As2, B2, x2, _⟩ := x1.takeT ho e
    split at hk
    · rename_i xs e2
      obtain ⟨a', us, A, e3, q1, q2, q3, q4, q5, q6⟩ := x2.slot e2
      rw [ea] at e3
      cases e3
      cases x2.tm with
      | cons h1 h2 h3 h4 h5 =>
        rename_i A1 A2
        obtain ⟨As3, x3⟩ := x2.relist (ys := xs ++ [z]) (ws := us ++ [v]) (C := fun b => A b ∨ A1 b) (B' := A2) e2 ea q5 (TRs.append q3 (TRs.one h1) (fun b z w => x2.dB s b (q6 b z) (h4 b w)) (fun b z => .inl z) fun b z => .inr z)
          (fun b z => z.elim (fun z => .inl ⟨q6 b z, fun e => q4 (by rw [← e]; exact z)⟩) fun z => .inr (h4 b z)) h2 h5 (fun b z w => z.elim (fun z => x2.dB s b (q6 b z) (h5 b w)) fun z => h3 b z w)
        exact ⟨a, us, v, rfl, rfl, q1, by rw [← q3.len]; exact hk.1, hq (.t (.d .none)) _ .non _ x3.env.pushN trivial hk.2⟩
    · exact hk.elim
  · exact hk.elim
theorem rd_pop {s : Nat} : RD K (tBM0 K "list" rPop (tVar s)) (wPop s) := by
  intro P G ts σ vs H k Q x hw hq
  obtain ⟨F, As, B, x⟩ := x
  have hw : (match G[s]? with
  | some (some (.lst ts)) => match ts[ts.length - 1]? with
    | some (.d x) => k (.t (.d x)) (G.set s (some (.lst ts.dropLast)))
    | _ => False
  | _ => False) := hw
  split at hw
  · rename_i xs e
    split at hw
    · rename_i d e2
      obtain ⟨a, us, A, e3, q1, q2, q3, q4, q5, q6⟩ := x.slot e
      obtain ⟨v, C, g1, g2, g3⟩ := q3.get e2
      obtain ⟨As3, x3⟩ := x.relist (ys := xs.dropLast) (ws := us.dropLast) (C := A) (B' := B) e e3 q5 q3.dropLast (fun b z => .inl ⟨q6 b z, fun e => q4 (by rw [← e]; exact z)⟩) x.tm (fun _ z => z) (fun b z w => x.dB s b (q6 b z) w)
      rw [q3.len] at g1
      cases g2 with
      | d g2 => exact ⟨.ref a, e3, .inl ⟨rfl, _, SqL.of q1⟩, a, us, v, rfl, rfl, q1, g1, hq (.t (.d d)) _ v _ (x3.push g2).env trivial hw⟩
    · exact hw.elim
  · exact hw.elim
theorem rd_popAt {s : Nat} (h : RD K ti wi) : RD K (tBM K "list" rPopAt (tVar s) (tCons ti tNil)) (fun G k => (match G[s]? with | some (some (.lst _)) => True | _ => False) ∧ wPopAt s wi G k) := by
  intro P G ts σ vs H k Q x hw hq
  obtain ⟨hs, hw⟩ := hw
  obtain ⟨xs0, hs⟩ : ∃ xs0, G[s]? = some (some (.lst xs0)) := by
    split at hs
    · rename_i xs0 e
      exact ⟨xs0, e⟩
    · exact hs.elim
  obtain ⟨F0, As0, B0, x0⟩ := id x
  obtain ⟨a, us0, ea, h0⟩ := slot_val x0 hs
  refine ⟨.ref a, ea, .inl ⟨rfl, _, SqL.of h0⟩, ?_⟩
  refine h P G ts σ vs H _ _ x hw fun y G1 v H1 x1 ho hk => ?_
  match y, hk with
  | .t (.d (.int i)), hk =>
    have hk : (match G1[s]? with
    | some (some (.lst ts)) => small62 i ∧ match ixN ts.length i with
      | some j => match ts[j]? with
        | some (.d x) => k (.t (.d x)) (G1.set s (some (.lst (ts.eraseIdx j))))
        | _ => False
      | none => False
    | _ => False) := hk
    have ev := Env.int x1
    subst ev
    obtain ⟨F, As, B, x1⟩ := x1.pop
    split at hk
    · rename_i xs e
      obtain ⟨hsm, hk⟩ := hk
      split at hk
      · rename_i j e2
        split at hk
        · rename_i d e4
          obtain ⟨a', us, A, e3, q1, q2, q3, q4, q5, q6⟩ := x1.slot e
          rw [ea] at e3
          cases e3
          obtain ⟨v, C, g1, g2, g3⟩ := q3.get e4
          obtain ⟨As3, x3⟩ := x1.relist (ys := xs.eraseIdx j) (ws := us.eraseIdx j) (C := A) (B' := B) e ea q5 (q3.eraseIdx j) (fun b z => .inl ⟨q6 b z, fun e => q4 (by rw [← e]; exact z)⟩) x1.tm (fun _ z => z) (fun b z w => x1.dB s b (q6 b z) w)
          rw [q3.len] at e2
          have b1 := hsm.1
          have b2 := hsm.2
          cases g2 with
          | d g2 => exact ⟨a, us, i, j, v, rfl, rfl, q1, by omega, by omega, (ixN_seq e2).1, g1, hq (.t (.d d)) _ v _ (x3.push g2).env trivial hk⟩
        · exact hk.elim
      · exact hk.elim
    · exact hk.elim
theorem rds_setIx {s : Nat} (h : RD K te we) (h2 : RD K ti wi) : RDS K (tAsg te (gSub (tVar s) ti rSetL)) (fun D G => we G fun x G1 => (match G1[s]? with | some (some (.lst _)) => True | _ => False) ∧ wSetIx s (fun G k => k x G) wi D G1) := by
  intro P G ts σ vs H D E x hw nx rt bk ct
  refine h P G ts σ vs H _ _ x hw fun y G1 v H1 x1 ho1 hk => ?_
  obtain ⟨hs, hk⟩ := hk
  obtain ⟨xs0, hs⟩ : ∃ xs0, G1[s]? = some (some (.lst xs0)) := by
    split at hs
    · rename_i xs0 e
      exact ⟨xs0, e⟩
    · exact hs.elim
  obtain ⟨F0, As0, B0, x0⟩ := id x1
  obtain ⟨a, us0, ea, h0⟩ := slot_val x0 hs
  refine ⟨.ref a, ea, ?_⟩
  refine h2 P G1 _ σ _ H1 _ _ x1 hk fun z G2 u H2 x2 ho2 hk => ?_
  match z, hk with
  | .t (.d (.int i)), hk =>
    have hk : (match takeOf G2 y with
    | some (z, G3) => match G3[s]? with
      | some (some (.lst ts)) => match ixN ts.length i with
        | some j => D.nx (G3.set s (some (.lst (ts.set j z))))
        | none => False
      | _ => False
    | none => False) := hk
    have eu := Env.int x2
    subst eu
    obtain ⟨F, As, B, x2⟩ := x2.pop
    split at hk
    · rename_i z G3 e
      obtain ⟨F3, As3, B3, x3, _⟩ := x2.takeT ho1 e
      split at hk
      · rename_i xs e2
        split at hk
        · rename_i j e4
          obtain ⟨a', us, A, e3, q1, q2, q3, q4, q5, q6⟩ := x3.slot e2
          rw [ea] at e3
          cases e3
          cases x3.tm with
          | cons h1 h2 h3 h4 h5 =>
            rename_i A1 A2
            obtain ⟨As4, x4⟩ := x3.relist (ys := xs.set j z) (ws := us.set j v) (C := fun b => A b ∨ A1 b) (B' := A2) e2 ea q5 (q3.set h1 (fun b z w => x3.dB s b (q6 b z) (h4 b w)) (fun b z => .inl z) fun b z => .inr z)
              (fun b z => z.elim (fun z => .inl ⟨q6 b z, fun e => q4 (by rw [← e]; exact z)⟩) fun z => .inr (h4 b z)) h2 h5 (fun b z w => z.elim (fun z => x3.dB s b (q6 b z) (h5 b w)) fun z => h3 b z w)
            rw [q3.len] at e4
            exact ⟨a, us, i, j, rfl, rfl, q1, e4, nx _ σ _ x4.env hk⟩
        · exact hk.elim
      · exact hk.elim
    · exact hk.elim
end
end DL
end
section
set_option autoImplicit false
/-! DL8: defs: what they promise over data; calls. -/
namespace DL
open PySem PySem.Spec PyProof.Rows L2

/-- what a def is for: from x its arguments, when it may be called, what it hands back (a new thing, or data); it changes nothing -/
structure FS where
  α : Type
  args : α → List PyData
  pre : α → Prop
  post : α → T → Prop
def spF (K : PySem.W.Frag) (S : FS) : Sp := fun vs H Q _ => ∃ (F : Hp) (x : S.α), DqAll K F vs (S.args x) ∧ Same F H ∧ S.pre x ∧
  ∀ (r : T) (v : V) (H' F' : Hp) (A : ASet), S.post x r → Same F F' → Same F' H' → Same H H' → TR K F' H' r v A → (∀ b, A b → H b = none ∧ F' b = none ∧ H' b ≠ none) → (∀ b o, F' b = some o → F b = some o ∨ H b = none) → Q v H'
/-- what a body is asked for -/
def look (G : Gm) : Tm → Option T
  | .t x => some x
  | .al i => match G[i]? with
    | some (some t) => some t
    | _ => none
def startG (n : Nat) (ds : List PyData) : Gm := ds.map (fun d => some (T.d d)) ++ List.replicate (n - ds.length) none
def endsD (post : T → Prop) : DEnds := { nx := fun _ => post (.d .none), rt := fun x G => ∃ r, look G x = some r ∧ post r }
section
variable {K : PySem.W.Frag} {P : Par} {G : Gm} {ts : List T} {σ : L2.St} {vs : List V} {H F : Hp} {As : Nat → ASet} {B : ASet}
theorem EnvX.look {y : Tm} {v : V} {t : T} (x : EnvX K P G (pushT y ts) σ (pushV y v vs) H F As B) (ho : AlOk σ y v) (e : look G y = some t) : ∃ A, TR K F H t v A ∧ ∀ b, A b → (B b ∨ ∃ i, As i b) := by
  cases y with
  | t y =>
    cases e
    cases x.tm with
    | cons h1 h2 h3 h4 h5 => exact ⟨_, h1, fun b z => .inl (h4 b z)⟩
  | al i =>
    have e : (match G[i]? with
      | some (some t) => some t
      | _ => none) = some t := e
    have ho : σ[i]? = some (some v) := ho
    split at e
    · rename_i t' e2
      cases e
      obtain ⟨v', e3, h⟩ := x.sl i _ e2
      rw [ho] at e3
      cases e3
      exact ⟨_, h, fun b z => .inr ⟨i, z⟩⟩
    · cases e
theorem startG_some {n : Nat} {ds : List PyData} {i : Nat} {t : T} (h : (startG n ds)[i]? = some (some t)) : ∃ d, t = .d d ∧ ds[i]? = some d := by
  unfold startG at h
  by_cases hi : i < ds.length
  · rw [List.getElem?_append_left (by rw [List.length_map]; exact hi), List.getElem?_map, List.getElem?_eq_getElem hi] at h
    cases h
    exact ⟨_, rfl, List.getElem?_eq_getElem hi⟩
  · rw [List.getElem?_append_right (by rw [List.length_map]; omega), List.getElem?_replicate] at h
    split at h <;> cases h
open Classical in
/-- a def's body, from its reading over data -/
theorem spF_body {N : List Str} {body : List Stmt} {X : Cx} {t : TS} {w : WS} {S : FS} {vs : List V} {H : Hp} {Q : VK} {E : XK} (hK : X.K = K) (h : PSsD X body t w) (hN : vs.length ≤ N.length)
    (hw : ∀ x, S.pre x → w (endsD (S.post x)) (startG N.length (S.args x))) (hs : spF K S vs H Q E) : t { nx := fun _ H' => Q .non H', rt := Q } (L2.start N vs) H := by
  subst hK
  obtain ⟨F, x, hd, fh, hr, q⟩ := hs
  have hw := hw x hr
  generalize S.args x = ds at hd hw
  have hl := dpa_len hd
  have e0 : EnvX X.K ⟨F, fun b => if F b = none then H b else none⟩ (startG N.length ds) [] (L2.start N vs) [] H F (fun _ _ => False) (fun _ => False) := by
    refine ⟨Same.refl F, fh, fun b o z => ?_, fun b o z => ?_, fun _ _ _ _ z => z, fun _ _ _ z => z, fun i t z => ?_, .nil, fun _ _ _ _ z => z.elim, fun _ _ z => z.elim, fun _ _ z => z.elim, fun _ z => z.elim, trivial, ?_⟩
    · have z : (if F b = none then H b else none) = some o := z
      split at z
      · exact z
      · cases z
    · have z : (if F b = none then H b else none) = some o := z
      split at z
      · rename_i e
        exact e
      · cases z
    · obtain ⟨d, rfl, z2⟩ := startG_some z
      obtain ⟨v, e1, e2⟩ := dpa_get hd z2
      refine ⟨v, ?_, .d e2⟩
      unfold L2.start
      rw [List.getElem?_append_left (by rw [List.length_map]; exact (List.getElem?_eq_some_iff.mp e1).1), List.getElem?_map, e1]
      rfl
    · unfold startG L2.start
      rw [List.length_append, List.length_append, List.length_map, List.length_map, List.length_replicate, List.length_replicate, hl]
  have fin : ∀ (G' : Gm) (ts' : List T) (σ' : L2.St) (vs' : List V) (H' F' : Hp) (As : Nat → ASet) (B : ASet) (v : V) (A : ASet) (r : T), S.post x r → EnvX X.K ⟨F, fun b => if F b = none then H b else none⟩ G' ts' σ' vs' H' F' As B → TR X.K F' H' r v A → (∀ b, A b → (B b ∨ ∃ i, As i b)) → Q v H' := fun G' ts' σ' vs' H' F' As B v A r hpost x ht hA => by
    have fm : ∀ b, F b = none → H b ≠ none → ∃ o, H b = some o ∧ (if F b = none then H b else none) = some o := fun b h1 h2 => by
      cases e : H b with
      | none => exact absurd e h2
      | some o => exact ⟨o, rfl, if_pos h1⟩
    refine q r v H' F' A hpost x.hb x.fh (fun b o z => ?_) ht (fun b z => ?_) fun b o z => ?_
    · cases e : F b with
      | none =>
        obtain ⟨o', e1, e2⟩ := fm b e (ne_none_of z)
        rw [z] at e1
        cases e1
        exact x.fm b o e2
      | some o' =>
        have := fh b o' e
        rw [z] at this
        cases this
        exact x.fh b o (x.hb b o e)
    · have live : F' b = none ∧ H' b ≠ none := by
        rcases hA b z with z | ⟨i, z⟩
        · exact x.fB b z
        · exact x.fA i b z
      refine ⟨?_, live⟩
      cases e : H b with
      | none => rfl
      | some o =>
        exfalso
        cases e2 : F b with
        | none =>
          obtain ⟨o', _, e4⟩ := fm b e2 (ne_none_of e)
          rcases hA b z with z | ⟨i, z⟩
          · exact x.fmB b o' e4 z
          · exact x.fmA b o' e4 i z
        | some o' =>
          have := x.hb b o' e2
          rw [live.1] at this
          cases this
    · cases e2 : F b with
      | none =>
        refine .inr ?_
        cases e : H b with
        | none => rfl
        | some o' =>
          obtain ⟨o2, _, e4⟩ := fm b e2 (ne_none_of e)
          have := x.fmF b o2 e4
          rw [z] at this
          cases this
      | some o' =>
        have := x.hb b o' e2
        rw [z] at this
        cases this
        exact .inl rfl
  refine h.rd _ _ _ _ _ _ _ _ e0.env hw (fun G' σ' H' x hn => ?_) (fun y G' v σ' H' x ho hk => ?_) (fun _ _ _ _ z => z.elim) (fun _ _ _ _ z => z.elim)
  · obtain ⟨F', As, B, x⟩ := x
    exact fin _ _ _ _ H' F' As B .non (fun _ => False) _ hn x (.d .non) fun _ z => z.elim
  · obtain ⟨F', As, B, x⟩ := x
    obtain ⟨r, hk, hp⟩ := hk
    obtain ⟨A, ht, hA⟩ := x.look ho hk
    exact fin _ _ _ _ H' F' As B v A r hp x ht hA
end
/-- a def that keeps its promise over data, where it stands -/
structure Def (P : Program) (w : World) (K : PySem.W.Frag) (mg : Str → Option Value) (base : Heap) (k : Nat) (x : Str) (n : Nat) (S : FS) : Prop where
  ex : ∃ (f : Addr) (fd : FuncData) (ps : List Str), FnOk P w K mg base CX0 k f fd ps (spF K S) ∧ mg x = some (.ref f) ∧ PySem.W.keepIn K (.ref f) = true ∧ Binds K fd ps [] ∧ ps.length = n
theorem spF_len {K : PySem.W.Frag} {S : FS} {n : Nat} (h : ∀ x, (S.args x).length = n) : ∀ vs H Q E, spF K S vs H Q E → vs.length = n := fun vs H Q E ⟨F, x, hd, _⟩ => (dpa_len hd).trans (h x)
/-- a def of the text keeps its promise, by its body over data -/
theorem ok_fn {P : Program} {w : World} {K : PySem.W.Frag} {mg : Str → Option Value} {base : Heap} {x qual : Str} {st : Stmt} {f : Addr} {fd : FuncData} {N ps : List Str} {k n : Nat} {S : FS} (F : Fun K x qual st f fd) (hm : mg x = some (.ref f)) (hb : Binds K fd ps []) (C : FnScope N ps (defScope st))
    (seer : base.NoSeer) (tree : P.given.tree = none) (hn : ps.length = n) (hk : 40 ≤ k) (hps : ps.length ≤ N.length) (hl : ∀ x, (S.args x).length = ps.length)
    (hbody : ∀ (cdv : Value) (A : Around) (outer : List PySem.Env) (s : Shared) (H : Hp) (E : XK), Room k (A.deeper (envOfC qual (defScope st) s.heap.objs.size f cdv)) → Big (cxOf CX0 P w K mg base N qual (defScope st) f cdv A outer s H E).nox →
      ∃ t w', PSsD (cxOf CX0 P w K mg base N qual (defScope st) f cdv A outer s H E).nox (defBody st) t w' ∧ ∀ x, S.pre x → w' (endsD (S.post x)) (startG N.length (S.args x))) : Def P w K mg base (k + 1) x n S := by
  refine ⟨f, fd, ps, F.ok C (spF_len hl) (fun cdv A outer s H vs Q E hr h => ?_), hm, F.kp, hb, hn⟩
  have big : Big (cxOf CX0 P w K mg base N qual (defScope st) f cdv A outer s H E).nox := by
    refine ⟨seer, tree, ?_, envOfC qual (defScope st) s.heap.objs.size f cdv, outer, rfl, C.gen, C.co, rfl, rfl⟩
    have := hr.dp
    show (A.deeper (envOfC qual (defScope st) s.heap.objs.size f cdv)).depth + 100 < recursionLimit
    omega
  obtain ⟨t, w', h1, h2⟩ := hbody cdv A outer s H E hr big
  exact ⟨t, h1.ps, spF_body rfl h1 (by rw [spF_len hl vs H Q E h]; exact hps) h2 h⟩
/-! ### calls -/
def wCall (S : FS) (wa : WA) : WE := fun G k => wa G fun xs G1 => match frzsOf G1 xs with
  | some (ds, G2) => ∃ x, ds = S.args x ∧ S.pre x ∧ ∀ r, S.post x r → k (.t r) G2
  | none => False
theorem rd_call {K : PySem.W.Frag} {S : FS} {ta : TA} {wa : WA} {E : XK} (h : RDA K ta wa) : RD K (tCall (spF K S) [] E ta) (wCall S wa) := by
  intro P G ts σ vs H k Q x hw hq
  refine h P G ts σ vs H _ _ x hw fun xs G1 us H1 x1 ho hk => ?_
  have hk : (match frzsOf G1 xs with
  | some (ds, G2) => ∃ x, ds = S.args x ∧ S.pre x ∧ ∀ r, S.post x r → k (.t r) G2
  | none => False) := hk
  obtain ⟨F, As, B, x1⟩ := x1
  split at hk
  · rename_i ds G2 e
    obtain ⟨F', As', B', x2, _, r2⟩ := x1.frzs ho e
    obtain ⟨x, rfl, hr, hk⟩ := hk
    rw [List.append_nil]
    refine ⟨F', x, r2, x2.fh, hr, fun r v H' F2 A hpost s1 s2 s3 ht hA hF => ?_⟩
    have keepH : ∀ b, H1 b ≠ none → H' b = H1 b := fun b z => by
      cases e : H1 b with
      | none => exact absurd e z
      | some o => exact s3 b o e
    have offF : ∀ b, F' b = none → H1 b ≠ none → F2 b = none := fun b z1 z2 => by
      cases e : F2 b with
      | none => rfl
      | some o =>
        rcases hF b o e with z | z
        · rw [z1] at z
          cases z
        · exact absurd z z2
    have nA : ∀ b, A b → H1 b = none := fun b z => (hA b z).1
    refine hq (.t r) G2 v H' ⟨F2, As', fun b => A b ∨ B' b, ?_⟩ trivial (hk r hpost)
    refine ⟨x2.hb.trans s1, s2, x2.fm.trans s3, fun b o z => offF b (x2.fmF b o z) (ne_none_of (x2.fm b o z)), x2.fmA, fun b o z w => w.elim (fun w => ?_) (x2.fmB b o z), fun i t z => ?_, ?_, x2.dj, fun i b z w => w.elim (fun w => (x2.fA i b z).2 (nA b w)) (x2.dB i b z), fun i b z => ?_, fun b z => ?_, trivial, x2.len⟩
    · have := x2.fm b o z
      rw [nA b w] at this
      cases this
    · obtain ⟨v', e1, h1⟩ := x2.sl i t z
      exact ⟨v', e1, h1.frame s1 (fun b z => keepH b (x2.fA i b z).2) fun b z => offF b (x2.fA i b z).1 (x2.fA i b z).2⟩
    · refine .cons (A1 := A) (A2 := B') ht (x2.tm.frame s1 (fun b z => keepH b (x2.fB b z).2) fun b z => offF b (x2.fB b z).1 (x2.fB b z).2) (fun b z w => (x2.fB b w).2 (nA b z)) (fun b z => .inl z) fun b z => .inr z
    · exact ⟨offF b (x2.fA i b z).1 (x2.fA i b z).2, by rw [keepH b (x2.fA i b z).2]; exact (x2.fA i b z).2⟩
    · rcases z with z | z
      · exact ⟨(hA b z).2.1, (hA b z).2.2⟩
      · exact ⟨offF b (x2.fB b z).1 (x2.fB b z).2, by rw [keepH b (x2.fB b z).2]; exact (x2.fB b z).2⟩
  · exact hk.elim
section
variable {X : Cx} {e : Expr} {es : List Expr} {ta : TA} {wa : WA} {p pos : Pos}
theorem pd_call {k n : Nat} {x : Str} {S : FS} (D : Def X.prog X.w X.K X.mg X.base k x n S) (hr : Room k X.A) (hg : Gl X x) (ha : PAD X (e :: es) ta wa) (hdb : (x == ("__debug__" : Str)) = false := by decide) (he : starEach (e :: es) X.env = (false, eval e X.env) :: starEach es X.env := by rfl) (hpl : (backTo pos (starEach es X.env)).any (·.1) = false := by rfl) :
    PD X (.Call (.Name x p) (e :: es) [] pos) (tCall (spF X.K S) [] (fun _ _ _ => False) ta) (wCall S wa) := by
  obtain ⟨f, fd, ps, F, hm, hk, hb, _⟩ := D.ex
  exact ⟨pe_call F hr hg hm hk hb .nil pass0 ha.pe hdb he hpl, rd_call ha.rd⟩
end
end DL
end
section
set_option autoImplicit false
/-! DL9: the rules as they are written by the printer. -/
namespace DL
open PySem PySem.Spec PyProof.Rows L2

/-- the built-in names that no module name hides -/
structure Bl (mg : Str → Option Value) : Prop where
  len : mg "len" = none
  sum : mg "sum" = none
  all : mg "all" = none
  any : mg "any" = none
  abs : mg "abs" = none
  max : mg "max" = none
  min : mg "min" = none
  int : mg "int" = none
  list : mg "list" = none
  tuple : mg "tuple" = none
  range : mg "range" = none
  zip : mg "zip" = none
  enumerate : mg "enumerate" = none
  sorted : mg "sorted" = none
  isinstance : mg "isinstance" = none
  bool : mg "bool" = none
  str : mg "str" = none
  repr : mg "repr" = none
  dict : mg "dict" = none
theorem bt_len : bootBuiltins "len" = some (.builtin "len") := by decide +kernel
theorem bt_sum : bootBuiltins "sum" = some (.builtin "sum") := by decide +kernel
theorem bt_all : bootBuiltins "all" = some (.builtin "all") := by decide +kernel
theorem bt_any : bootBuiltins "any" = some (.builtin "any") := by decide +kernel
theorem bt_abs : bootBuiltins "abs" = some (.builtin "abs") := by decide +kernel
theorem bt_max : bootBuiltins "max" = some (.builtin "max") := by decide +kernel
theorem bt_min : bootBuiltins "min" = some (.builtin "min") := by decide +kernel
theorem bt_int : bootBuiltins "int" = some (.type "int") := by decide +kernel
theorem bt_list : bootBuiltins "list" = some (.type "list") := by decide +kernel
theorem bt_tuple : bootBuiltins "tuple" = some (.type "tuple") := by decide +kernel
section
variable {X : Cx} {pos : Pos}
theorem dv (i : Nat) {x : Str} (hN : X.N[i]? = some x := by rfl) (hv : Vis X.env.scope x := by first | exact Or.inl rfl | exact Or.inr (Or.inl rfl) | exact Or.inr (Or.inr rfl)) (hd : (x == ("__debug__" : Str)) = false := by decide) (hcd : (x == ("__classdict__" : Str)) = false := by decide) : PD X (.Name x pos) (tVar i) (wVar i) := pd_var hN hv hd hcd
theorem dn (i : Nat) {x : Str} (hN : X.N.Nodup) (hi : X.N[i]? = some x := by rfl) (hx : Loc X.env.scope x := by first | exact Or.inl rfl | exact Or.inr rfl) (hf : X.fn x = true ∨ X.env.scope.names.lookup x = some .local := by first | exact .inl rfl | exact .inr rfl | assumption) : PGD X (.Name x pos) (gName i) [i] (wName i) := pgd_name hN hi hx hf
theorem ds (i : Nat) {x : Str} {e : Expr} {te : TE} {we : WE} {pos' : Pos} (hN : X.N.Nodup) (he : PD X e te we) (hi : X.N[i]? = some x := by rfl) (hx : Loc X.env.scope x := by first | exact Or.inl rfl | exact Or.inr rfl) (hs : swapsWith e (some (.Name x pos')) pos.line X.env = pure false := by rfl) (hf : X.fn x = true ∨ X.env.scope.names.lookup x = some .local := by first | exact .inl rfl | exact .inr rfl | assumption) :
    PSD X (.Assign [.Name x pos'] e pos) (tAsg te (gName i)) (wSet i we) := psd_set hN hi hx he hs hf
variable {a b e : Expr} {ta tb te : TE} {wa wb we : WE} {p : Pos}
def d_len (B : Bl X.mg) (ha : PD X a ta wa) (hg : Gl X "len" := by rfl) (h1 : starEach [a] X.env = (false, eval a X.env) :: starEach [] X.env := by rfl) (h2 : (backTo pos (starEach [] X.env)).any (·.1) = false := by rfl) := (pd_callB call_len_seq rp_len.n hg B.len bt_len (pad_cons ha pad_nil h1) (by decide) (by decide) h1 h2 : PD X (.Call (.Name "len" p) [a] [] pos) _ _)
def d_sum (B : Bl X.mg) (hc : X.calm = true) (ha : PD X a ta wa) (hg : Gl X "sum" := by rfl) (h1 : starEach [a] X.env = (false, eval a X.env) :: starEach [] X.env := by rfl) (h2 : (backTo pos (starEach [] X.env)).any (·.1) = false := by rfl) := (pd_callB (cr_sum hc) rp_sum.n hg B.sum bt_sum (pad_cons ha pad_nil h1) (by decide) (by decide) h1 h2 : PD X (.Call (.Name "sum" p) [a] [] pos) _ _)
def d_all (B : Bl X.mg) (hc : X.calm = true) (ha : PD X a ta wa) (hg : Gl X "all" := by rfl) (h1 : starEach [a] X.env = (false, eval a X.env) :: starEach [] X.env := by rfl) (h2 : (backTo pos (starEach [] X.env)).any (·.1) = false := by rfl) := (pd_callB (cr_all hc) rp_all.n hg B.all bt_all (pad_cons ha pad_nil h1) (by decide) (by decide) h1 h2 : PD X (.Call (.Name "all" p) [a] [] pos) _ _)
def d_any (B : Bl X.mg) (hc : X.calm = true) (ha : PD X a ta wa) (hg : Gl X "any" := by rfl) (h1 : starEach [a] X.env = (false, eval a X.env) :: starEach [] X.env := by rfl) (h2 : (backTo pos (starEach [] X.env)).any (·.1) = false := by rfl) := (pd_callB (cr_any hc) rp_any.n hg B.any bt_any (pad_cons ha pad_nil h1) (by decide) (by decide) h1 h2 : PD X (.Call (.Name "any" p) [a] [] pos) _ _)
def d_abs (B : Bl X.mg) (ha : PD X a ta wa) (hg : Gl X "abs" := by rfl) (h1 : starEach [a] X.env = (false, eval a X.env) :: starEach [] X.env := by rfl) (h2 : (backTo pos (starEach [] X.env)).any (·.1) = false := by rfl) := (pd_callB call_abs rp_abs.n hg B.abs bt_abs (pad_cons ha pad_nil h1) (by decide) (by decide) h1 h2 : PD X (.Call (.Name "abs" p) [a] [] pos) _ _)
def d_maxL (B : Bl X.mg) (hc : X.calm = true) (ha : PD X a ta wa) (hg : Gl X "max" := by rfl) (h1 : starEach [a] X.env = (false, eval a X.env) :: starEach [] X.env := by rfl) (h2 : (backTo pos (starEach [] X.env)).any (·.1) = false := by rfl) := (pd_callB (cr_max hc) rp_maxL.n hg B.max bt_max (pad_cons ha pad_nil h1) (by decide) (by decide) h1 h2 : PD X (.Call (.Name "max" p) [a] [] pos) _ _)
def d_minL (B : Bl X.mg) (hc : X.calm = true) (ha : PD X a ta wa) (hg : Gl X "min" := by rfl) (h1 : starEach [a] X.env = (false, eval a X.env) :: starEach [] X.env := by rfl) (h2 : (backTo pos (starEach [] X.env)).any (·.1) = false := by rfl) := (pd_callB (cr_min hc) rp_minL.n hg B.min bt_min (pad_cons ha pad_nil h1) (by decide) (by decide) h1 h2 : PD X (.Call (.Name "min" p) [a] [] pos) _ _)
def d_max2 (B : Bl X.mg) (hc : X.calm = true) (ha : PD X a ta wa) (hb : PD X b tb wb) (hg : Gl X "max" := by rfl) (h1 : starEach [a, b] X.env = (false, eval a X.env) :: starEach [b] X.env := by rfl) (h0 : starEach [b] X.env = (false, eval b X.env) :: starEach [] X.env := by rfl) (h2 : (backTo pos (starEach [b] X.env)).any (·.1) = false := by rfl) := (pd_callB (call_max2 hc) rp_max2.n hg B.max bt_max (pad_cons ha (pad_cons hb pad_nil h0) h1) (by decide) (by decide) h1 h2 : PD X (.Call (.Name "max" p) [a, b] [] pos) _ _)
def d_min2 (B : Bl X.mg) (hc : X.calm = true) (ha : PD X a ta wa) (hb : PD X b tb wb) (hg : Gl X "min" := by rfl) (h1 : starEach [a, b] X.env = (false, eval a X.env) :: starEach [b] X.env := by rfl) (h0 : starEach [b] X.env = (false, eval b X.env) :: starEach [] X.env := by rfl) (h2 : (backTo pos (starEach [b] X.env)).any (·.1) = false := by rfl) := (pd_callB (call_min2 hc) rp_min2.n hg B.min bt_min (pad_cons ha (pad_cons hb pad_nil h0) h1) (by decide) (by decide) h1 h2 : PD X (.Call (.Name "min" p) [a, b] [] pos) _ _)
def d_int (B : Bl X.mg) (ha : PD X a ta wa) (hg : Gl X "int" := by rfl) (h1 : starEach [a] X.env = (false, eval a X.env) :: starEach [] X.env := by rfl) (h2 : (backTo pos (starEach [] X.env)).any (·.1) = false := by rfl) := (pd_callTy call_int1 rp_int.n hg B.int bt_int (pad_cons ha pad_nil h1) (by decide) (by decide) h1 h2 : PD X (.Call (.Name "int" p) [a] [] pos) _ _)
def d_list (B : Bl X.mg) (ha : PD X a ta wa) (hg : Gl X "list" := by rfl) (h1 : starEach [a] X.env = (false, eval a X.env) :: starEach [] X.env := by rfl) (h2 : (backTo pos (starEach [] X.env)).any (·.1) = false := by rfl) := (pd_callTy call_list_of rp_list.n hg B.list bt_list (pad_cons ha pad_nil h1) (by decide) (by decide) h1 h2 : PD X (.Call (.Name "list" p) [a] [] pos) _ _)
def d_tuple (B : Bl X.mg) (ha : PD X a ta wa) (hg : Gl X "tuple" := by rfl) (h1 : starEach [a] X.env = (false, eval a X.env) :: starEach [] X.env := by rfl) (h2 : (backTo pos (starEach [] X.env)).any (·.1) = false := by rfl) := (pd_callTy call_tuple_of rp_tuple.n hg B.tuple bt_tuple (pad_cons ha pad_nil h1) (by decide) (by decide) h1 h2 : PD X (.Call (.Name "tuple" p) [a] [] pos) _ _)
theorem d_add (ha : PD X a ta wa) (hb : PD X b tb wb) : PD X (.BinOp a .Add b pos) (tOp (rAddA X.K) ta tb) (w2 wa wb fCat) := pd_op op_addA rp_cat ha hb
def d_sub (ha : PD X a ta wa) (hb : PD X b tb wb) := (pd_op op_sub rp_sub ha hb : PD X (.BinOp a .Sub b pos) (tOp _ ta tb) (w2 wa wb fSub))
theorem d_mul (ha : PD X a ta wa) (hb : PD X b tb wb) : PD X (.BinOp a .Mult b pos) (tOp rMulA ta tb) (w2 wa wb fRep) := pd_op op_mulA rp_rep ha hb
def d_mod (ha : PD X a ta wa) (hb : PD X b tb wb) := (pd_op op_modN rp_mod ha hb : PD X (.BinOp a .Mod b pos) (tOp _ ta tb) (w2 wa wb fMod))
def d_div (h : Big X) (ha : PD X a ta wa) (hb : PD X b tb wb) := (pd_op (op_divB h) rp_div ha hb : PD X (.BinOp a .FloorDiv b pos) (tOp _ ta tb) (w2 wa wb fDiv))
abbrev fPow : F2 := fIc CPow fun i j => .int (i ^ j.toNat)
def d_pow (ha : PD X a ta wa) (hb : PD X b tb wb) := (pd_op op_pow (rp_Ic fun _ i j => .int _) ha hb : PD X (.BinOp a .Pow b pos) (tOp _ ta tb) (w2 wa wb fPow))
def d_neg (ha : PD X a ta wa) := (pd_un un_neg rp_neg ha : PD X (.UnaryOp .USub a pos) (tUn _ ta) (w1 wa fNeg))
theorem d_ix (ha : PD X a ta wa) (hb : PD X b tb wb) (hs : PlainIx b := by exact fun _ _ => rfl) : PD X (.Subscript a b pos) (tOp (rIx X.K) ta tb) (w2 wa wb fIx) := pd_ix ix_seq rp_ix ha hb hs
def t_lt (ha : PD X a ta wa) (hb : PD X b tb wb) := (ptd_cmp op_lt rp_lt ha hb (nomark _) : PTD X (.Compare a [.Lt] [b] pos) _ (wTest (w2 wa wb fLt)))
def t_le (ha : PD X a ta wa) (hb : PD X b tb wb) := (ptd_cmp op_le rp_le ha hb (nomark _) : PTD X (.Compare a [.LtE] [b] pos) _ (wTest (w2 wa wb fLe)))
def t_gt (ha : PD X a ta wa) (hb : PD X b tb wb) := (ptd_cmp op_gt rp_gt ha hb (nomark _) : PTD X (.Compare a [.Gt] [b] pos) _ (wTest (w2 wa wb fGt)))
def t_ge (ha : PD X a ta wa) (hb : PD X b tb wb) := (ptd_cmp op_ge rp_ge ha hb (nomark _) : PTD X (.Compare a [.GtE] [b] pos) _ (wTest (w2 wa wb fGe)))
def t_eq {k : Nat} (hr : Room k X.A) (ha : PD X a ta wa) (hb : PD X b tb wb) := (ptd_cmp (op_eqB hr.units) rp_eq ha hb (nomark _) : PTD X (.Compare a [.Eq] [b] pos) _ (wTest (w2 wa wb fEq)))
def t_ne {k : Nat} (hr : Room k X.A) (ha : PD X a ta wa) (hb : PD X b tb wb) := (ptd_cmp (op_neB hr.units) rp_ne ha hb (nomark _) : PTD X (.Compare a [.NotEq] [b] pos) _ (wTest (w2 wa wb fNe)))
def t_is (ha : PD X a ta wa) (hb : PD X b tb wb) := (ptd_cmp op_isN rp_is ha hb (nomark _) : PTD X (.Compare a [.Is] [b] pos) _ (wTest (w2 wa wb fIs)))
def t_isnot (ha : PD X a ta wa) (hb : PD X b tb wb) := (ptd_cmp op_notN rp_isnot ha hb (nomark _) : PTD X (.Compare a [.IsNot] [b] pos) _ (wTest (w2 wa wb fIsNot)))
def c_lt (ha : PD X a ta wa) (hb : PD X b tb wb) := (pd_cmp op_lt rp_lt ha hb (nomark _) : PD X (.Compare a [.Lt] [b] pos) _ (w2 wa wb fLt))
def c_le (ha : PD X a ta wa) (hb : PD X b tb wb) := (pd_cmp op_le rp_le ha hb (nomark _) : PD X (.Compare a [.LtE] [b] pos) _ (w2 wa wb fLe))
def c_gt (ha : PD X a ta wa) (hb : PD X b tb wb) := (pd_cmp op_gt rp_gt ha hb (nomark _) : PD X (.Compare a [.Gt] [b] pos) _ (w2 wa wb fGt))
def c_ge (ha : PD X a ta wa) (hb : PD X b tb wb) := (pd_cmp op_ge rp_ge ha hb (nomark _) : PD X (.Compare a [.GtE] [b] pos) _ (w2 wa wb fGe))
def c_eq {k : Nat} (hr : Room k X.A) (ha : PD X a ta wa) (hb : PD X b tb wb) := (pd_cmp (op_eqB hr.units) rp_eq ha hb (nomark _) : PD X (.Compare a [.Eq] [b] pos) _ (w2 wa wb fEq))
def c_ne {k : Nat} (hr : Room k X.A) (ha : PD X a ta wa) (hb : PD X b tb wb) := (pd_cmp (op_neB hr.units) rp_ne ha hb (nomark _) : PD X (.Compare a [.NotEq] [b] pos) _ (w2 wa wb fNe))
def c_is (ha : PD X a ta wa) (hb : PD X b tb wb) := (pd_cmp op_isN rp_is ha hb (nomark _) : PD X (.Compare a [.Is] [b] pos) _ (w2 wa wb fIs))
def c_isnot (ha : PD X a ta wa) (hb : PD X b tb wb) := (pd_cmp op_notN rp_isnot ha hb (nomark _) : PD X (.Compare a [.IsNot] [b] pos) _ (w2 wa wb fIsNot))
/-- methods of lists -/
def isLst (o : Option (Option T)) : Prop := match o with
  | some (some (.lst _)) => True
  | _ => False
def d_append (s : Nat) {x : Str} {px apos : Pos} (ha : PD X a ta wa) (hN : X.N[s]? = some x := by rfl) (hv : Vis X.env.scope x := by first | exact Or.inl rfl | exact Or.inr (Or.inl rfl) | exact Or.inr (Or.inr rfl)) (hd : (x == ("__debug__" : Str)) = false := by decide) (hcd : (x == ("__classdict__" : Str)) = false := by decide)
    (hbase : attributeBase (.Name x px) "append" X.env (eval (.Name x px) X.env) = eval (.Name x px) X.env := by rfl)
    (hfew : ((backTo pos (starEach [a] X.env)).all (fun x => !x.1) && (backToKw pos (keywordEach [] X.env)).all (fun x => x.1.isSome) && decide ([a].length + ([] : List Keyword).length + (if ([] : List Keyword).isEmpty then 0 else 1) < 30)) = true := by rfl)
    (hline : (apos.endLine == pos.line) = true := by rfl) (hs : starEach [a] X.env = (false, eval a X.env) :: starEach [] X.env := by rfl) (hplain : (backTo pos (starEach [] X.env)).any (·.1) = false := by rfl) := (⟨pe_bm PySem.F.plainAttrs_list PySem.F.slot_list_append PySem.F.type_list_append mt_append (pe_var hN hv hd hcd) (pa_cons ha.pe pa_nil hs) hbase hfew hline hs hplain, rd_app ha.rd⟩ : PD X (.Call (.Attribute (.Name x px) "append" apos) [a] [] pos) _ (fun G k => isLst G[s]? ∧ wApp s wa G k))
def d_pop (s : Nat) {x : Str} {px apos : Pos} (hN : X.N[s]? = some x := by rfl) (hv : Vis X.env.scope x := by first | exact Or.inl rfl | exact Or.inr (Or.inl rfl) | exact Or.inr (Or.inr rfl)) (hd : (x == ("__debug__" : Str)) = false := by decide) (hcd : (x == ("__classdict__" : Str)) = false := by decide)
    (hbase : attributeBase (.Name x px) "pop" X.env (eval (.Name x px) X.env) = eval (.Name x px) X.env := by rfl) (hline : (apos.endLine == pos.line) = true := by rfl) := (⟨pe_bm0 PySem.F.plainAttrs_list PySem.F.slot_list_pop PySem.F.type_list_pop mt_pop (pe_var hN hv hd hcd) hbase hline, rd_pop⟩ : PD X (.Call (.Attribute (.Name x px) "pop" apos) [] [] pos) _ (wPop s))
def d_popAt (s : Nat) {x : Str} {px apos : Pos} (ha : PD X a ta wa) (hN : X.N[s]? = some x := by rfl) (hv : Vis X.env.scope x := by first | exact Or.inl rfl | exact Or.inr (Or.inl rfl) | exact Or.inr (Or.inr rfl)) (hd : (x == ("__debug__" : Str)) = false := by decide) (hcd : (x == ("__classdict__" : Str)) = false := by decide)
    (hbase : attributeBase (.Name x px) "pop" X.env (eval (.Name x px) X.env) = eval (.Name x px) X.env := by rfl)
    (hfew : ((backTo pos (starEach [a] X.env)).all (fun x => !x.1) && (backToKw pos (keywordEach [] X.env)).all (fun x => x.1.isSome) && decide ([a].length + ([] : List Keyword).length + (if ([] : List Keyword).isEmpty then 0 else 1) < 30)) = true := by rfl)
    (hline : (apos.endLine == pos.line) = true := by rfl) (hs : starEach [a] X.env = (false, eval a X.env) :: starEach [] X.env := by rfl) (hplain : (backTo pos (starEach [] X.env)).any (·.1) = false := by rfl) := (⟨pe_bm PySem.F.plainAttrs_list PySem.F.slot_list_pop PySem.F.type_list_pop mt_popAt (pe_var hN hv hd hcd) (pa_cons ha.pe pa_nil hs) hbase hfew hline hs hplain, rd_popAt ha.rd⟩ : PD X (.Call (.Attribute (.Name x px) "pop" apos) [a] [] pos) _ (fun G k => isLst G[s]? ∧ wPopAt s wa G k))
/-- xs[i] = e -/
def wSetI (s : Nat) (we wi : WE) : WS := fun D G => we G fun x G1 => isLst G1[s]? ∧ wSetIx s (fun G k => k x G) wi D G1
def d_setIx (s : Nat) {x : Str} {px spos : Pos} (ha : PD X a ta wa) (hb : PD X b tb wb) (hN : X.N[s]? = some x := by rfl) (hv : Vis X.env.scope x := by first | exact Or.inl rfl | exact Or.inr (Or.inl rfl) | exact Or.inr (Or.inr rfl)) (hd : (x == ("__debug__" : Str)) = false := by decide) (hcd : (x == ("__classdict__" : Str)) = false := by decide)
    (hst : ∀ v, assign (.Subscript (.Name x px) b spos) X.env v = (do
      let ov ← holding [v] (eval (.Name x px) X.env)
      let iv ← holding [v, ov] (eval b X.env)
      standAt spos
      holding [v, ov, iv] (setItem ov iv v)
      release [v, ov, iv] []) := by intro _; rfl)
    (hs : swapsWithSole [.Subscript (.Name x px) b spos] a pos.line X.env = pure false := by rfl) (hw : swappedStores [.Subscript (.Name x px) b spos] a X.env = pure none := by rfl)
    (h1 : (assignEach [.Subscript (.Name x px) b spos] X.env).map (·.2) = [assign (.Subscript (.Name x px) b spos) X.env] := by rfl) := (⟨ps_asg ha.pe (pg_sub (pe_var hN hv hd hcd) hb.pe set_list hst) hs hw h1, rds_setIx ha.rd hb.rd⟩ : PSD X (.Assign [.Subscript (.Name x px) b spos] a pos) _ (wSetI s wa wb))
end

/-! ### ranges with a step, list(range(..)) -/
def rangeDC (lo c : Int) (n : Nat) : List PyData := (List.range n).map fun (i : Nat) => PyData.int (lo + (i : Int) * c)
theorem iters_rangeC {K : PySem.W.Frag} {F : Hp} (lo c : Int) (n : Nat) : Iters K (Itc lo c n) (rangeDC lo c n) F where
  go := fun i H hi _ => by
    unfold rangeDC at hi
    rw [List.length_map, List.length_range] at hi
    exact hi
  stop := fun H _ => by
    unfold rangeDC
    rw [List.length_map, List.length_range]
    exact Nat.le_refl n
  yld := fun i x H v H' hx _ y => by
    unfold rangeDC at hx
    rw [List.getElem?_map] at hx
    by_cases hi : i < n
    · rw [List.getElem?_range hi] at hx
      cases hx
      exact .inl ⟨y.1, by rw [y.2]; exact .int _⟩
    · rw [List.getElem?_eq_none (by rw [List.length_range]; omega)] at hx
      cases hx
theorem DatRs.three {K : PySem.W.Frag} {H F : Hp} {us : List V} {d e f : PyData} (h : DatRs K F H us [d, e, f]) : ∃ v w u, us = [v, w, u] ∧ DatR K F H v d ∧ DatR K F H w e ∧ DatR K F H u f := by
  cases h with
  | cons h1 h2 =>
    obtain ⟨w, u, rfl, h3, h4⟩ := h2.two
    exact ⟨_, _, _, rfl, h1, h3, h4⟩
/-- range(lo, hi, -1) -/
def wRng3 (wa : WA) : WI := fun G k => wa G fun xs G1 => match datsOf G1 xs with
  | some [.int lo, .int hi, .int (-1)] => (small62 lo ∧ small62 hi) ∧ k (rangeDC lo (-1) (lo - hi).toNat) G1
  | _ => False
theorem rdi_rng3 {K : PySem.W.Frag} {ta : TA} {wa : WA} (h : RDA K ta wa) : RDI K (iRng3 ta) (wRng3 wa) := by
  intro P G ts σ vs H k R x hw hq
  refine h P G ts σ vs H _ _ x hw fun xs G1 us H1 x1 ho hk => ?_
  obtain ⟨F, As, B, x1⟩ := x1
  have hk : (match datsOf G1 xs with
  | some [.int lo, .int hi, .int (-1)] => (small62 lo ∧ small62 hi) ∧ k (rangeDC lo (-1) (lo - hi).toNat) G1
  | _ => False) := hk
  split at hk
  · rename_i lo hi e
    obtain ⟨F', B', x2, s2, r2⟩ := x1.dats ho e
    obtain ⟨v, u, w, rfl, r, r', r''⟩ := r2.three
    exact ⟨lo, hi, -1, _, by rw [r.int, r'.int, r''.int], RgC.neg hk.1.1.1 hk.1.1.2 hk.1.2.1 hk.1.2.2, hq _ _ G1 H1 F' As B' x2 (iters_rangeC lo (-1) _) hk.2⟩
  · exact hk.elim
section
variable {X : Cx} {tg a b c : Expr} {ta : TA} {wa : WA} {p pos : Pos}
theorem i_rng1 (B : Bl X.mg) {te : TE} {we : WE} (ha : PD X a te we) (hg : Gl X "range" := by rfl) (hs : starEach [a] X.env = [(false, eval a X.env)] := by rfl) : PID X tg (.Call (.Name "range" p) [a] [] pos) (iRng1 (tCons te tNil)) (wRng1 (wCons we wNil)) := pid_rng1 hg B.range (pad_cons ha pad_nil hs) hs
theorem i_rng2 (B : Bl X.mg) {te tf : TE} {we wf : WE} (ha : PD X a te we) (hb : PD X b tf wf) (hg : Gl X "range" := by rfl) (hs : starEach [a, b] X.env = [(false, eval a X.env), (false, eval b X.env)] := by rfl) (hs2 : starEach [b] X.env = [(false, eval b X.env)] := by rfl) :
    PID X tg (.Call (.Name "range" p) [a, b] [] pos) (iRng2 (tCons te (tCons tf tNil))) (wRng2 (wCons we (wCons wf wNil))) := pid_rng2 hg B.range (pad_cons ha (pad_cons hb pad_nil hs2) (by rw [hs, hs2])) hs hs2
theorem i_rng3 (B : Bl X.mg) {te tf th : TE} {we wf wh : WE} (ha : PD X a te we) (hb : PD X b tf wf) (hc : PD X c th wh) (hg : Gl X "range" := by rfl) (h1 : starEach [a, b, c] X.env = (false, eval a X.env) :: starEach [b, c] X.env := by rfl) (h2 : starEach [b, c] X.env = (false, eval b X.env) :: starEach [c] X.env := by rfl) (h3 : starEach [c] X.env = (false, eval c X.env) :: starEach [] X.env := by rfl)
    (hpl : (backTo pos (starEach [b, c] X.env)).any (·.1) = false := by rfl) :
    PID X tg (.Call (.Name "range" p) [a, b, c] [] pos) (iRng3 (tCons te (tCons tf (tCons th tNil)))) (wRng3 (wCons we (wCons wf (wCons wh wNil)))) :=
  ⟨pi_range3 hg B.range (pa_cons ha.pe (pa_cons hb.pe (pa_cons hc.pe pa_nil h3) h2) h1) h1 hpl, rdi_rng3 (rd_cons ha.rd (rd_cons hb.rd (rd_cons hc.rd rd_nil)))⟩
theorem i_enum (B : Bl X.mg) {te : TE} {we : WE} {tpos : Pos} {elts : List Expr} {kk : Nat} (ha : PD X a te we) (hg : Gl X "enumerate" := by rfl) (hs : starEach [a] X.env = [(false, eval a X.env)] := by rfl) : PID X (.Tuple elts kk tpos) (.Call (.Name "enumerate" p) [a] [] pos) (iEn X.K (tCons te tNil)) (wEn (wCons we wNil)) := pid_E hg B.enumerate (pad_cons ha pad_nil hs) hs
theorem i_zip (B : Bl X.mg) {te tf : TE} {we wf : WE} {tpos : Pos} {elts : List Expr} {kk : Nat} (ha : PD X a te we) (hb : PD X b tf wf) (hg : Gl X "zip" := by rfl) (hs : starEach [a, b] X.env = (false, eval a X.env) :: starEach [b] X.env := by rfl) (h2 : starEach [b] X.env = (false, eval b X.env) :: starEach [] X.env := by rfl) (hpl : (backTo pos (starEach [b] X.env)).any (·.1) = false := by rfl) :
    PID X (.Tuple elts kk tpos) (.Call (.Name "zip" p) [a, b] [] pos) (iZp X.K (tCons te (tCons tf tNil))) (wZp (wCons we (wCons wf wNil))) := pid_Z hg B.zip (pad_cons ha (pad_cons hb pad_nil h2) hs) hs hpl
end
/-- list(range(n)), tuple(range(n)) -/
def wLstRg (we : WE) : WE := fun G k => we G fun x G1 => match x with
  | .t (.d (.int n)) => n ≤ 1000 ∧ -1000 ≤ n ∧ k (.t (.lst ((rangeD 0 n.toNat).map T.d))) G1
  | _ => False
def wTupRg (we : WE) : WE := fun G k => we G fun x G1 => match x with
  | .t (.d (.int n)) => n ≤ 1000 ∧ -1000 ≤ n ∧ k (.t (.d (.tuple (rangeD 0 n.toNat)))) G1
  | _ => False
theorem dq_rg {K : PySem.W.Frag} {F : Hp} (n : Int) : DqAll K F (rgV 0 n) (rangeD 0 n.toNat) := by
  unfold rgV rangeD
  rw [Int.sub_zero]
  generalize List.range n.toNat = l
  induction l with
  | nil => exact .nil
  | cons i l ih => exact .cons (.int _) ih
theorem rd_lstRg {K : PySem.W.Frag} {te : TE} {we : WE} (h : RD K te we) : RD K (tLstRg (tRg1 te)) (wLstRg we) := by
  intro P G ts σ vs H k Q x hw hq
  refine h P G ts σ vs H _ _ x hw fun y G1 v H1 x1 ho hk => ?_
  match y, hk with
  | .t (.d (.int n)), hk =>
    obtain ⟨F, As, B, x2⟩ := x1.pop
    exact ⟨n, Env.int x1, ⟨by omega, by omega, by have := hk.1; omega, by have := hk.2.1; omega, by have := hk.1; omega⟩, fun q hn => hq (.t _) G1 _ _ (x2.newLst hn (dq_rg n)) trivial hk.2.2⟩
theorem rd_tupRg {K : PySem.W.Frag} {te : TE} {we : WE} (h : RD K te we) : RD K (tTupRg (tRg1 te)) (wTupRg we) := by
  intro P G ts σ vs H k Q x hw hq
  refine h P G ts σ vs H _ _ x hw fun y G1 v H1 x1 ho hk => ?_
  match y, hk with
  | .t (.d (.int n)), hk =>
    obtain ⟨F, As, B, x2⟩ := x1.pop
    exact ⟨n, Env.int x1, ⟨by omega, by omega, by have := hk.1; omega, by have := hk.2.1; omega, by have := hk.1; omega⟩, fun q hn => hq (.t _) G1 _ _ (x2.newTup hn (dq_rg n)) trivial hk.2.2⟩
section
variable {X : Cx} {a : Expr} {te : TE} {we : WE} {p p2 pos pos2 : Pos}
def d_listRg (B : Bl X.mg) (hc : X.calm = true) (ha : PD X a te we) (hg : Gl X "list" := by rfl) (hg2 : Gl X "range" := by rfl) (na : starEach [a] X.env = (false, eval a X.env) :: starEach [] X.env := by rfl)
    (nb : starEach [.Call (.Name "range" p2) [a] [] pos2] X.env = (false, eval (.Call (.Name "range" p2) [a] [] pos2) X.env) :: starEach [] X.env := by rfl) := (⟨pe_listRg hc hg B.list (prg_1 hg2 B.range ha.pe na) nb, rd_lstRg ha.rd⟩ : PD X (.Call (.Name "list" p) [.Call (.Name "range" p2) [a] [] pos2] [] pos) _ (wLstRg we))
def d_tupleRg (B : Bl X.mg) (hc : X.calm = true) (ha : PD X a te we) (hg : Gl X "tuple" := by rfl) (hg2 : Gl X "range" := by rfl) (na : starEach [a] X.env = (false, eval a X.env) :: starEach [] X.env := by rfl)
    (nb : starEach [.Call (.Name "range" p2) [a] [] pos2] X.env = (false, eval (.Call (.Name "range" p2) [a] [] pos2) X.env) :: starEach [] X.env := by rfl) := (⟨pe_tupRg hc hg B.tuple (prg_1 hg2 B.range ha.pe na) nb, rd_tupRg ha.rd⟩ : PD X (.Call (.Name "tuple" p) [.Call (.Name "range" p2) [a] [] pos2] [] pos) _ (wTupRg we))
end

/-! ### a, b = e1, e2 (names) -/
def wPar (i j : Nat) (wa : WA) : WS := fun D G => wa G fun xs G1 => match frzsOf G1 xs with
  | some ([d, e], G2) => i < G2.length ∧ j < G2.length ∧ D.nx ((G2.set i (some (.d d))).set j (some (.d e)))
  | _ => False
theorem rds_par {K : PySem.W.Frag} {i j : Nat} {ta : TA} {wa : WA} (h : RDA K ta wa) : RDS K (tPar i j ta) (wPar i j wa) := by
  intro P G ts σ vs H D E x hw nx rt bk ct
  refine h P G ts σ vs H _ _ x hw fun xs G1 us H1 x1 ho hk => ?_
  obtain ⟨F, As, B, x1⟩ := x1
  have hk : (match frzsOf G1 xs with
  | some ([d, e], G2) => i < G2.length ∧ j < G2.length ∧ D.nx ((G2.set i (some (.d d))).set j (some (.d e)))
  | _ => False) := hk
  split at hk
  · rename_i d e G2 e0
    obtain ⟨F', As', B', x2, s2, r2⟩ := x1.frzs ho e0
    cases r2 with
    | cons r r' =>
      cases r' with
      | cons r' r'' =>
        cases r''
        obtain ⟨As3, B3, x3⟩ := (x2.push r).store hk.1
        obtain ⟨As4, B4, x4⟩ := (x3.push r').store (i := j) (by rw [List.length_set]; exact hk.2.1)
        exact ⟨_, _, rfl, nx _ _ H1 x4.env hk.2.2⟩
  · exact hk.elim
def psd_par {X : Cx} (i j : Nat) {x y : Str} {a b : Expr} {ta tb : TE} {wa wb : WE} {px py pt pos : Pos} {kt k2 pt2} (hc : X.calm = true) (hN : X.N.Nodup) (ha : PD X a ta wa) (hb : PD X b tb wb) (hi : X.N[i]? = some x := by rfl) (hj : X.N[j]? = some y := by rfl) (hij : i ≠ j := by decide)
    (hx : X.env.scope.names.lookup x = some .local := by rfl) (hy : X.env.scope.names.lookup y = some .local := by rfl) (h1 : starEach [a, b] X.env = (false, eval a X.env) :: starEach [b] X.env := by rfl) (h2 : starEach [b] X.env = (false, eval b X.env) :: starEach [] X.env := by rfl)
    (hw : swappedStores [.Tuple [.Name x px, .Name y py] kt pt] (.Tuple [a, b] k2 pt2) X.env = pure (some [x, y]) := by rfl)
    (hs : swapsWithSole [.Tuple [.Name x px, .Name y py] kt pt] (.Tuple [a, b] k2 pt2) pos.line X.env = pure false := by rfl) := (⟨ps_par hc hN hi hj hij hx hy (pa_cons ha.pe (pa_cons hb.pe pa_nil h2) h1) hw hs, rds_par (rd_cons ha.rd (rd_cons hb.rd rd_nil))⟩ : PSD X (.Assign [.Tuple [.Name x px, .Name y py] kt pt] (.Tuple [a, b] k2 pt2) pos) _ (wPar i j (wCons wa (wCons wb wNil))))
end DL
end
section
set_option autoImplicit false
/-! DL10: places: parts of what a slot owns. -/
namespace DL
open PySem PySem.Spec PyProof.Rows L2

inductive Stp where
  | ix (i : Nat)
  | key (k : Key)
  | fld (x : Str)

def idxK {κ : Type} [DecidableEq κ] : List κ → κ → Option Nat
  | [], _ => none
  | x :: xs, k => if x = k then some 0 else match idxK xs k with
    | some j => some (j + 1)
    | none => none
def T.core : T → T
  | .at _ t => t.core
  | t => t
def T.re : T → T → T
  | .at a t, y => .at a (t.re y)
  | _, y => y
def T.kid : T → Stp → Option (Nat × T)
  | .at _ t, s => t.kid s
  | .lst ts, .ix i => match ts[i]? with
    | some u => some (i, u)
    | none => none
  | .obj _ ks ts, .fld x => match idxK ks x with
    | some i => match ts[i]? with
      | some u => some (i, u)
      | none => none
    | none => none
  | .dk ks ts, .key x => match idxK ks x with
    | some i => match ts[i]? with
      | some u => some (i, u)
      | none => none
    | none => none
  | _, _ => none
def T.setKid : T → Nat → T → T
  | .at a t, i, y => .at a (t.setKid i y)
  | .lst ts, i, y => .lst (ts.set i y)
  | .obj C ks ts, i, y => .obj C ks (ts.set i y)
  | .dk ks ts, i, y => .dk ks (ts.set i y)
  | t, _, _ => t
def T.get (t : T) : List Stp → Option T
  | [] => some t
  | s :: p => match t.kid s with
    | some (_, u) => u.get p
    | none => none
def T.put (t : T) : List Stp → T → T
  | [], y => y
  | s :: p, y => match t.kid s with
    | some (i, u) => t.setKid i (u.put p y)
    | none => t
theorem T.get_snoc {s : Stp} : ∀ {p : List Stp} {t u : T} , t.get p = some u → t.get (p ++ [s]) = match u.kid s with
    | some (_, w) => some w
    | none => none
  | [], t, u, h => by
    cases h
    rfl
  | s' :: p, t, u, h => by
    rw [List.cons_append, T.get]
    rw [T.get] at h
    cases e : t.kid s' with
    | none => rw [e] at h; cases h
    | some q =>
      rw [e] at h
      exact T.get_snoc (t := q.2) h
theorem T.put_snoc {s : Stp} {y : T} : ∀ {p : List Stp} {t u : T} , t.get p = some u → t.put (p ++ [s]) y = t.put p (u.put [s] y)
  | [], t, u, h => by
    cases h
    rfl
  | s' :: p, t, u, h => by
    rw [List.cons_append, T.put, T.put]
    rw [T.get] at h
    cases e : t.kid s' with
    | none => simp only [e] at h; cases h
    | some q =>
      simp only [e] at h
      simp only [T.put_snoc (t := q.2) h]
theorem idxK_get {κ : Type} [DecidableEq κ] : ∀ {ks : List κ} {k : κ} {j : Nat}, idxK ks k = some j → ks[j]? = some k
  | [], _, _, h => by cases h
  | x :: xs, k, j, h => by
    rw [idxK] at h
    split at h
    · rename_i e
      cases h
      rw [e]
      rfl
    · cases e : idxK xs k with
      | none => rw [e] at h; cases h
      | some i =>
        rw [e] at h
        cases h
        rw [List.getElem?_cons_succ]
        exact idxK_get e
theorem idxK_val {κ α : Type} [DecidableEq κ] : ∀ {ks : List κ} {vs : List α} {k : κ} {j : Nat} {v : α}, idxK ks k = some j → vs[j]? = some v → ((ks.zip vs).find? fun kv => decide (kv.1 = k)) = some (k, v)
  | [], _, _, _, _, h, _ => by cases h
  | x :: xs, [], k, j, v, h, hv => by simp at hv
  | x :: xs, w :: vs, k, j, v, h, hv => by
    rw [idxK] at h
    rw [List.zip_cons_cons, List.find?_cons]
    split at h
    · rename_i e
      cases h
      simp only [List.getElem?_cons_zero, Option.some.injEq] at hv
      rw [e, hv]
      simp
    · rename_i ne
      cases e : idxK xs k with
      | none => rw [e] at h; cases h
      | some i =>
        rw [e] at h
        cases h
        simp only [decide_eq_false ne]
        exact idxK_val e (by simpa using hv)
theorem lookup_find {κ α : Type} [DecidableEq κ] (k : κ) : ∀ l : List (κ × α), l.lookup k = (l.find? fun kv => decide (kv.1 = k)).map (·.2)
  | [] => rfl
  | (x, v) :: l => by
    rw [List.find?_cons]
    by_cases e : x = k
    · subst e
      simp [List.lookup_cons]
    · have e' : ¬ k = x := fun z => e z.symm
      simp only [decide_eq_false e]
      rw [List.lookup_cons, ← lookup_find k l]
      have : (k == x) = false := by simpa using e'
      rw [this]
/-- an entry is replaced in its place -/
theorem idxK_map {κ α : Type} [DecidableEq κ] (w : α) : ∀ {ks : List κ} {vs : List α} {k : κ} {j : Nat}, idxK ks k = some j → ks.Nodup → ks.length = vs.length → (ks.zip vs).map (fun kv => if kv.1 = k then (kv.1, w) else kv) = ks.zip (vs.set j w)
  | [], _, _, _, h, _, _ => by cases h
  | x :: xs, [], _, _, _, _, hl => by cases hl
  | x :: xs, v :: vs, k, j, h, nd, hl => by
    rw [idxK] at h
    rw [List.zip_cons_cons, List.map_cons]
    have hl := Nat.succ.inj hl
    split at h
    · rename_i e
      cases h
      subst e
      rw [if_pos rfl, List.set_cons_zero, List.zip_cons_cons]
      congr 1
      refine (List.map_congr_left fun kv hkv => ?_).trans (List.map_id _)
      exact if_neg fun e => (List.nodup_cons.mp nd).1 (by rw [← e]; exact (List.of_mem_zip hkv).1)
    · rename_i ne
      cases e : idxK xs k with
      | none => rw [e] at h; cases h
      | some i =>
        rw [e] at h
        cases h
        rw [if_neg ne, List.set_cons_succ, List.zip_cons_cons, idxK_map w e (List.nodup_cons.mp nd).2 hl]

/-- the way to a place in a heap -/
inductive Walk (H : Hp) : V → List Stp → V → Prop
  | nil {v : V} : Walk H v [] v
  | ix {a : Addr} {us : List V} {i : Nat} {u w : V} {p : List Stp} : H a = some (.lst us) → us[i]? = some u → Walk H u p w → Walk H (.ref a) (.ix i :: p) w
  | fld {a C dx : Addr} {ks : List Str} {us : List V} {x : Str} {i : Nat} {u w : V} {p : List Stp} : H a = some (.ins C dx (ks.zip us)) → idxK ks x = some i → us[i]? = some u → Walk H u p w → Walk H (.ref a) (.fld x :: p) w
  | key {a : Addr} {ks : List Key} {us : List V} {x : Key} {i : Nat} {u w : V} {p : List Stp} : H a = some (.dK (ks.zip us)) → idxK ks x = some i → us[i]? = some u → Walk H u p w → Walk H (.ref a) (.key x :: p) w
theorem Walk.snoc {H : Hp} {s : Stp} {w z : V} : ∀ {p : List Stp} {v : V}, Walk H v p w → Walk H w [s] z → Walk H v (p ++ [s]) z
  | _, _, .nil, h => h
  | _, _, .ix h1 h2 h3, h => .ix h1 h2 (Walk.snoc h3 h)
  | _, _, .fld h1 h2 h0 h3, h => .fld h1 h2 h0 (Walk.snoc h3 h)
  | _, _, .key h1 h2 h0 h3, h => .key h1 h2 h0 (Walk.snoc h3 h)
theorem zip_lens {κ : Type} : ∀ {ks ks' : List κ} {us us' : List V}, ks.zip us = ks'.zip us' → ks.length = us.length → ks'.length = us'.length → ks = ks' ∧ us = us' := by
  intro ks ks' us us' h h1 h2
  have e := congrArg List.unzip h
  rw [List.unzip_zip h1, List.unzip_zip h2] at e
  exact ⟨congrArg Prod.fst e, congrArg Prod.snd e⟩

section
variable {K : PySem.W.Frag} {F H : Hp}
theorem TR.core : ∀ {t : T} {v : V} {A : ASet}, TR K F H t v A → TR K F H t.core v A
  | _, _, _, .at h => by rw [T.core]; exact TR.core h
  | .d _, _, _, h => h
  | .ro _, _, _, h => h
  | .lst _, _, _, h => h
  | .obj _ _ _, _, _, h => h
  | .dk _ _, _, _, h => h
theorem TR.re {F' H' : Hp} {y : T} {C : ASet} : ∀ {t : T} {v : V} {A : ASet}, TR K F H t v A → TR K F' H' y v C → TR K F' H' (t.re y) v C
  | _, _, _, .at h, q => by rw [T.re]; exact .at (TR.re h q)
  | .d _, _, _, _, q => q
  | .ro _, _, _, _, q => q
  | .lst _, _, _, _, q => q
  | .obj _ _ _, _, _, _, q => q
  | .dk _ _, _, _, _, q => q
/-- one of many is changed, in its place -/
theorem TRs.setAt : ∀ {ts : List T} {vs : List V} {B : ASet} {j : Nat} {u : T}, TRs K F H ts vs B → ts[j]? = some u → (∀ b, B b → F b = none) →
    ∃ v Bj, vs[j]? = some v ∧ TR K F H u v Bj ∧ (∀ b, Bj b → B b) ∧ ∀ (H' : Hp) (u' : T) (C : ASet), TR K F H' u' v C → (∀ b, B b → ¬ Bj b → H' b = H b) → (∀ b, C b → B b → Bj b) → TRs K F H' (ts.set j u') vs (fun b => (B b ∧ ¬ Bj b) ∨ C b)
  | _, _, _, _, _, .nil, e, _ => by simp at e
  | _, _, B, 0, _, .cons (A1 := A1) (A2 := A2) h1 h2 h3 h4 h5, e, hF => by
    simp at e
    subst e
    refine ⟨_, A1, rfl, h1, h4, fun H' u' C hu hk hC => ?_⟩
    rw [List.set_cons_zero]
    have nA : ∀ b, A2 b → ¬ A1 b := fun b z w => h3 b w z
    exact .cons hu (h2.frame (Same.refl F) (fun b z => hk b (h5 b z) (nA b z)) fun b z => hF b (h5 b z)) (fun b z w => nA b w (hC b z (h5 b w))) (fun b z => .inr z) fun b z => .inl ⟨h5 b z, nA b z⟩
  | _, _, B, j + 1, _, .cons (A1 := A1) (A2 := A2) h1 h2 h3 h4 h5, e, hF => by
    obtain ⟨v, Bj, e1, hu, sub, k⟩ := TRs.setAt (j := j) h2 (by simpa using e) fun b z => hF b (h5 b z)
    refine ⟨v, Bj, by simpa using e1, hu, fun b z => h5 b (sub b z), fun H' u' C hu hk hC => ?_⟩
    rw [List.set_cons_succ]
    have nA : ∀ b, A1 b → ¬ Bj b := fun b z w => h3 b z (sub b w)
    refine .cons (A1 := A1) (A2 := fun b => (A2 b ∧ ¬ Bj b) ∨ C b) (h1.frame (Same.refl F) (fun b z => hk b (h4 b z) (nA b z)) fun b z => hF b (h4 b z)) (k H' u' C hu (fun b z w => hk b (h5 b z) w) fun b z w => hC b z (h5 b w)) (fun b z w => ?_) (fun b z => .inl ⟨h4 b z, nA b z⟩) fun b z => ?_
    · rcases w with w | w
      · exact h3 b z w.1
      · exact nA b z (hC b w (h4 b z))
    · exact z.imp (fun z => ⟨h5 b z.1, z.2⟩) id
theorem zipKid {ts : List T} {vs : List V} {B : ASet} {i : Nat} {u : T} {p : List Stp} {t1 : T} {v : V}
    (IH : ∀ {v : V} {A : ASet}, TR K F H u v A → (∀ b, A b → F b = none) → ∃ v1 A1, Walk H v p v1 ∧ TR K F H t1 v1 A1 ∧ (∀ b, A1 b → A b) ∧
      ∀ (H' : Hp) (y : T) (C : ASet), TR K F H' y v1 C → (∀ b, A b → ¬ A1 b → H' b = H b) → (∀ b, C b → A b → A1 b) → TR K F H' (u.put p y) v (fun b => (A b ∧ ¬ A1 b) ∨ C b))
    (hs : TRs K F H ts vs B) (e : ts[i]? = some u) (hF : ∀ b, B b → F b = none) : ∃ w v1 A1, vs[i]? = some w ∧ Walk H w p v1 ∧ TR K F H t1 v1 A1 ∧ (∀ b, A1 b → B b) ∧
      ∀ (H' : Hp) (y : T) (C : ASet), TR K F H' y v1 C → (∀ b, B b → ¬ A1 b → H' b = H b) → (∀ b, C b → B b → A1 b) → TRs K F H' (ts.set i (u.put p y)) vs (fun b => (B b ∧ ¬ A1 b) ∨ C b) := by
  obtain ⟨w, Bj, e1, hu, sub, k⟩ := hs.setAt e hF
  obtain ⟨v1, A1, q1, q2, q3, q4⟩ := IH hu fun b z => hF b (sub b z)
  refine ⟨w, v1, A1, e1, q1, q2, fun b z => sub b (q3 b z), fun H' y C hy hk hC => ?_⟩
  have := k H' (u.put p y) _ (q4 H' y C hy (fun b z w => hk b (sub b z) w) fun b z w => hC b z (sub b w)) (fun b z w => hk b z fun z2 => w (q3 b z2)) (fun b z w => z.elim (fun z => z.1) fun z => q3 b (hC b z w))
  refine this.weak fun b z => ?_
  rcases z with z | z | z
  · exact .inl ⟨z.1, fun w => z.2 (q3 b w)⟩
  · exact .inl ⟨sub b z.1, z.2⟩
  · exact .inr z
/-- a place is looked at; what is put there -/
theorem TR.focus {t1 : T} : ∀ {p : List Stp} {t : T} {v : V} {A : ASet}, TR K F H t v A → t.get p = some t1 → (∀ b, A b → F b = none) → ∃ v1 A1, Walk H v p v1 ∧ TR K F H t1 v1 A1 ∧ (∀ b, A1 b → A b) ∧
      ∀ (H' : Hp) (y : T) (C : ASet), TR K F H' y v1 C → (∀ b, A b → ¬ A1 b → H' b = H b) → (∀ b, C b → A b → A1 b) → TR K F H' (t.put p y) v (fun b => (A b ∧ ¬ A1 b) ∨ C b)
  | [], t, v, A, h, e, hF => by
    cases e
    exact ⟨v, A, .nil, h, fun _ z => z, fun H' y C hy hk hC => hy.weak fun b z => .inr z⟩
  | s :: p, t, v, A, h, e, hF => by
    have node : ∀ {t : T} {v : V} {A : ASet}, TR K F H t v A → (∀ b, A b → F b = none) → t.get (s :: p) = some t1 → ∃ v1 A1, Walk H v (s :: p) v1 ∧ TR K F H t1 v1 A1 ∧ (∀ b, A1 b → A b) ∧
        ∀ (H' : Hp) (y : T) (C : ASet), TR K F H' y v1 C → (∀ b, A b → ¬ A1 b → H' b = H b) → (∀ b, C b → A b → A1 b) → TR K F H' (t.put (s :: p) y) v (fun b => (A b ∧ ¬ A1 b) ∨ C b) := by
      intro t
      induction t using T.rec (motive_2 := fun _ => True) with
      | d x => intro v A h hF e; rw [T.get, T.kid] at e <;> first | cases e | exact fun _ _ => nofun | exact fun _ _ _ => nofun | skip
      | ro x => intro v A h hF e; rw [T.get, T.kid] at e <;> first | cases e | skip
      | «at» a t ih =>
        intro v A h hF e
        cases h with
        | «at» h =>
          obtain ⟨v1, A1, q1, q2, q3, q4⟩ := ih h hF (by rw [T.get, T.kid] at e; rw [T.get]; exact e)
          refine ⟨v1, A1, q1, q2, q3, fun H' y C hy hk hC => ?_⟩
          have := q4 H' y C hy hk hC
          rw [T.put] at this ⊢
          rw [T.kid]
          cases e2 : t.kid s with
          | none => rw [T.get, T.kid, e2] at e; cases e
          | some q =>
            rw [e2] at this
            exact .at this
      | lst ts _ =>
        intro v A h hF e
        cases s with
        | ix i =>
          rw [T.get, T.kid] at e
          cases h with
          | lst h1 h2 h3 h4 h5 h6 =>
            rename_i a us B
            cases e2 : ts[i]? with
            | none => rw [e2] at e; cases e
            | some u =>
              rw [e2] at e
              obtain ⟨w, v1, A1, g1, g2, g3, g4, g5⟩ := zipKid (p := p) (t1 := t1) (v := v) (fun h hF => TR.focus h e hF) h3 e2 fun b z => hF b (h6 b z)
              refine ⟨v1, A1, .ix h1 g1 g2, g3, fun b z => h6 b (g4 b z), fun H' y C hy hk hC => ?_⟩
              rw [T.put, T.kid, e2]
              have na : ¬ A1 a := fun z => h4 (g4 a z)
              refine .lst ((hk a h5 na).trans h1) h2 (g5 H' y C hy (fun b z w => hk b (h6 b z) w) fun b z w => hC b z (h6 b w)) (fun z => ?_) (.inl ⟨h5, na⟩) fun b z => z.imp (fun z => ⟨h6 b z.1, z.2⟩) id
              rcases z with z | z
              · exact h4 z.1
              · exact na (hC a z h5)
        | key k => cases e
        | fld x => cases e
      | obj C ks ts _ =>
        intro v A h hF e
        cases s with
        | fld x =>
          rw [T.get, T.kid] at e
          cases h with
          | obj h1 h2 h0 h3 h4 h5 h6 =>
            rename_i a dx us B
            cases e0 : idxK ks x with
            | none => rw [e0] at e; cases e
            | some i =>
              rw [e0] at e
              cases e2 : ts[i]? with
              | none => simp only [e2] at e; cases e
              | some u =>
                simp only [e2] at e
                obtain ⟨w, v1, A1, g1, g2, g3, g4, g5⟩ := zipKid (p := p) (t1 := t1) (v := v) (fun h hF => TR.focus h e hF) h3 e2 fun b z => hF b (h6 b z)
                refine ⟨v1, A1, .fld h1 e0 g1 g2, g3, fun b z => h6 b (g4 b z), fun H' y C hy hk hC => ?_⟩
                rw [T.put, T.kid, e0]
                simp only [e2]
                have na : ¬ A1 a := fun z => h4 (g4 a z)
                refine .obj ((hk a h5 na).trans h1) h2 h0 (g5 H' y C hy (fun b z w => hk b (h6 b z) w) fun b z w => hC b z (h6 b w)) (fun z => ?_) (.inl ⟨h5, na⟩) fun b z => z.imp (fun z => ⟨h6 b z.1, z.2⟩) id
                rcases z with z | z
                · exact h4 z.1
                · exact na (hC a z h5)
        | key k => cases e
        | ix x => cases e
      | dk ks ts _ =>
        intro v A h hF e
        cases s with
        | key x =>
          rw [T.get, T.kid] at e
          cases h with
          | dk h1 h2 h0 h3 h4 h5 h6 =>
            rename_i a us B
            cases e0 : idxK ks x with
            | none => rw [e0] at e; cases e
            | some i =>
              rw [e0] at e
              cases e2 : ts[i]? with
              | none => simp only [e2] at e; cases e
              | some u =>
                simp only [e2] at e
                obtain ⟨w, v1, A1, g1, g2, g3, g4, g5⟩ := zipKid (p := p) (t1 := t1) (v := v) (fun h hF => TR.focus h e hF) h3 e2 fun b z => hF b (h6 b z)
                refine ⟨v1, A1, .key h1 e0 g1 g2, g3, fun b z => h6 b (g4 b z), fun H' y C hy hk hC => ?_⟩
                rw [T.put, T.kid, e0]
                simp only [e2]
                have na : ¬ A1 a := fun z => h4 (g4 a z)
                refine .dk ((hk a h5 na).trans h1) h2 h0 (g5 H' y C hy (fun b z w => hk b (h6 b z) w) fun b z w => hC b z (h6 b w)) (fun z => ?_) (.inl ⟨h5, na⟩) fun b z => z.imp (fun z => ⟨h6 b z.1, z.2⟩) id
                rcases z with z | z
                · exact h4 z.1
                · exact na (hC a z h5)
        | fld k => cases e
        | ix x => cases e
      | nil => trivial
      | cons _ _ _ _ => trivial
    exact node h hF e
end
section
variable {K : PySem.W.Frag} {P : Par} {G : Gm} {ts : List T} {σ : L2.St} {vs : List V} {H F : Hp} {As : Nat → ASet} {B : ASet}
/-- what a slot owns at a place, and how it is changed -/
def AtPl (K : PySem.W.Frag) (P : Par) (G : Gm) (ts : List T) (σ : L2.St) (vs : List V) (H F : Hp) (As : Nat → ASet) (B : ASet) (s : Nat) (p : List Stp) (t1 : T) (v : V) (A1 : ASet) : Prop :=
  ∃ t, G[s]? = some (some t) ∧ t.get p = some t1 ∧ (∃ r, σ[s]? = some (some r) ∧ (p = [] → r = v)) ∧ TR K F H t1 v A1 ∧ (∀ b, A1 b → As s b) ∧
    ∀ (H' : Hp) (y : T) (C B' : ASet) (ts' : List T) (vs' : List V), TR K F H' y v C → (∀ b, ¬ A1 b → H' b = H b) → (∀ b, A1 b → H' b ≠ none) → (∀ b, C b → A1 b ∨ B b) → TRs K F H ts' vs' B' → (∀ b, B' b → B b) → (∀ b, C b → ¬ B' b) →
      ∃ As', EnvX K P (G.set s (some (t.put p y))) ts' σ vs' H' F As' B'
theorem EnvX.root {s : Nat} {t : T} (x : EnvX K P G ts σ vs H F As B) (hs : G[s]? = some (some t)) : ∃ r, σ[s]? = some (some r) ∧ AtPl K P G ts σ vs H F As B s [] t r (As s) := by
  obtain ⟨r, e, h⟩ := x.sl s t hs
  refine ⟨r, e, t, hs, rfl, ⟨r, e, fun _ => rfl⟩, h, fun _ z => z, fun H' y C B' ts' vs' hy hk live hC hts hB hd => ?_⟩
  exact x.change hs e hk hy hC hts hB hd live
theorem AtPl.step {s : Nat} {p : List Stp} {t1 u : T} {v : V} {A1 : ASet} {s' : Stp} {j : Nat} (x : EnvX K P G ts σ vs H F As B) (h : AtPl K P G ts σ vs H F As B s p t1 v A1) (hk : t1.kid s' = some (j, u)) :
    ∃ w A2, Walk H v [s'] w ∧ AtPl K P G ts σ vs H F As B s (p ++ [s']) u w A2 := by
  obtain ⟨t, h1, h2, ⟨r, h3, h4⟩, h5, h6, h7⟩ := h
  have e1 : t1.get [s'] = some u := by
    rw [T.get, hk]
    rfl
  obtain ⟨w, A2, q1, q2, q3, q4⟩ := h5.focus e1 fun b z => (x.fA s b (h6 b z)).1
  refine ⟨w, A2, q1, t, h1, by rw [T.get_snoc h2, hk], ⟨r, h3, fun e => absurd e (by simp)⟩, q2, fun b z => h6 b (q3 b z), fun H' y C B' ts' vs' hy hk' live hC hts hB hd => ?_⟩
  have hC1 : ∀ b, C b → A1 b → A2 b := fun b z w => (hC b z).elim id fun z => (x.dB s b (h6 b w) z).elim
  rw [T.put_snoc h2]
  refine h7 H' (t1.put [s'] y) (fun b => (A1 b ∧ ¬ A2 b) ∨ C b) B' ts' vs' (q4 H' y C hy (fun b z w => hk' b w) hC1) (fun b z => hk' b fun w => z (q3 b w)) (fun b z => ?_) (fun b z => ?_) hts hB fun b z w => ?_
  · by_cases w : A2 b
    · exact live b w
    · rw [hk' b w]
      exact (x.fA s b (h6 b z)).2
  · rcases z with z | z
    · exact .inl z.1
    · exact (hC b z).imp (q3 b) id
  · rcases z with z | z
    · exact x.dB s b (h6 b z.1) (hB b w)
    · exact hd b z w
/-- a list at a place -/
theorem AtPl.toL {s : Nat} {p : List Stp} {t1 : T} {v : V} {A1 : ASet} {xs : List T} (x : EnvX K P G ts σ vs H F As B) (h : AtPl K P G ts σ vs H F As B s p t1 v A1) (hc : t1.core = .lst xs) : ∃ t a us A, G[s]? = some (some t) ∧ t.get p = some t1 ∧ v = .ref a ∧ H a = some (.lst us) ∧ F a = none ∧ TRs K F H xs us A ∧ (∀ b, A b → As s b) ∧
    ∀ (ys : List T) (ws : List V) (C B' : ASet) (ts' : List T) (vs' : List V), TRs K F H ys ws C → (∀ b, C b → A b ∨ B b) → TRs K F H ts' vs' B' → (∀ b, B' b → B b) → (∀ b, C b → ¬ B' b) →
      ∃ As', EnvX K P (G.set s (some (t.put p (t1.re (.lst ys))))) ts' σ vs' (upd H a (.lst ws)) F As' B' := by
  obtain ⟨t, g1, g2, _, g5, q3, q4⟩ := h
  have q2 := g5.core
  rw [hc] at q2
  cases q2 with
  | lst h1 h2 h3 h4 h5 h6 =>
    rename_i a us A _
    refine ⟨t, a, us, A, g1, g2, rfl, h1, h2, h3, fun b z => q3 b (h6 b z), fun ys ws C B' ts' vs' hy hC hts hB hd => ?_⟩
    have nB : ∀ b, B b → b ≠ a := fun b z e => x.dB s a (q3 a h5) (by rw [← e]; exact z)
    have nC : ∀ b, C b → b ≠ a := fun b z => (hC b z).elim (fun w e => h4 (by rw [← e]; exact w)) (nB b)
    refine q4 _ (t1.re (.lst ys)) (fun b => b = a ∨ C b) B' ts' vs' (g5.re (.lst upd_same h2 (hy.frame (Same.refl F) (fun b z => upd_ne (nC b z)) fun b z => ?_) (fun z => nC a z rfl) (.inl rfl) fun b z => .inr z)) (fun b z => upd_ne fun e => z (by rw [e]; exact h5)) (fun b z e => ?_) ?_ hts hB ?_
    · rcases hC b z with z | z
      · exact (x.fA s b (q3 b (h6 b z))).1
      · exact (x.fB b z).1
    · by_cases hb : b = a
      · rw [hb, upd_same] at e
        cases e
      · rw [upd_ne hb] at e
        exact (x.fA s b (q3 b z)).2 e
    · rintro b (z | z)
      · rw [z]; exact .inl h5
      · exact (hC b z).imp (h6 b) id
    · rintro b (z | z) w
      · exact nB b (hB b w) z
      · exact hd b z w
/-- a dict at a place -/
theorem AtPl.toD {s : Nat} {p : List Stp} {t1 : T} {v : V} {A1 : ASet} {ks : List Key} {xs : List T} (x : EnvX K P G ts σ vs H F As B) (h : AtPl K P G ts σ vs H F As B s p t1 v A1) (hc : t1.core = .dk ks xs) : ∃ t a us A, G[s]? = some (some t) ∧ t.get p = some t1 ∧ v = .ref a ∧ H a = some (.dK (ks.zip us)) ∧ F a = none ∧ ks.length = us.length ∧ TRs K F H xs us A ∧ (∀ b, A b → As s b) ∧
    ∀ (ys : List T) (ws : List V) (C B' : ASet) (ts' : List T) (vs' : List V), TRs K F H ys ws C → ks.length = ws.length → (∀ b, C b → A b ∨ B b) → TRs K F H ts' vs' B' → (∀ b, B' b → B b) → (∀ b, C b → ¬ B' b) →
      ∃ As', EnvX K P (G.set s (some (t.put p (t1.re (.dk ks ys))))) ts' σ vs' (upd H a (.dK (ks.zip ws))) F As' B' := by
  obtain ⟨t, g1, g2, _, g5, q3, q4⟩ := h
  have q2 := g5.core
  rw [hc] at q2
  cases q2 with
  | dk h1 h2 h0 h3 h4 h5 h6 =>
    rename_i a us A _
    refine ⟨t, a, us, A, g1, g2, rfl, h1, h2, h0, h3, fun b z => q3 b (h6 b z), fun ys ws C B' ts' vs' hy hl hC hts hB hd => ?_⟩
    have nB : ∀ b, B b → b ≠ a := fun b z e => x.dB s a (q3 a h5) (by rw [← e]; exact z)
    have nC : ∀ b, C b → b ≠ a := fun b z => (hC b z).elim (fun w e => h4 (by rw [← e]; exact w)) (nB b)
    refine q4 _ (t1.re (.dk ks ys)) (fun b => b = a ∨ C b) B' ts' vs' (g5.re (.dk upd_same h2 hl (hy.frame (Same.refl F) (fun b z => upd_ne (nC b z)) fun b z => ?_) (fun z => nC a z rfl) (.inl rfl) fun b z => .inr z)) (fun b z => upd_ne fun e => z (by rw [e]; exact h5)) (fun b z e => ?_) ?_ hts hB ?_
    · rcases hC b z with z | z
      · exact (x.fA s b (q3 b (h6 b z))).1
      · exact (x.fB b z).1
    · by_cases hb : b = a
      · rw [hb, upd_same] at e
        cases e
      · rw [upd_ne hb] at e
        exact (x.fA s b (q3 b z)).2 e
    · rintro b (z | z)
      · rw [z]; exact .inl h5
      · exact (hC b z).imp (h6 b) id
    · rintro b (z | z) w
      · exact nB b (hB b w) z
      · exact hd b z w
/-- an object at a place -/
theorem AtPl.toO {s : Nat} {p : List Stp} {t1 : T} {v : V} {A1 : ASet} {D : Addr} {ks : List Str} {xs : List T} (x : EnvX K P G ts σ vs H F As B) (h : AtPl K P G ts σ vs H F As B s p t1 v A1) (hc : t1.core = .obj D ks xs) : ∃ t a dx us A, G[s]? = some (some t) ∧ t.get p = some t1 ∧ v = .ref a ∧ H a = some (.ins D dx (ks.zip us)) ∧ F a = none ∧ ks.length = us.length ∧ TRs K F H xs us A ∧ (∀ b, A b → As s b) ∧
    ∀ (ls : List Str) (ys : List T) (ws : List V) (C B' : ASet) (ts' : List T) (vs' : List V), TRs K F H ys ws C → ls.length = ws.length → (∀ b, C b → A b ∨ B b) → TRs K F H ts' vs' B' → (∀ b, B' b → B b) → (∀ b, C b → ¬ B' b) →
      ∃ As', EnvX K P (G.set s (some (t.put p (t1.re (.obj D ls ys))))) ts' σ vs' (upd H a (.ins D dx (ls.zip ws))) F As' B' := by
  obtain ⟨t, g1, g2, _, g5, q3, q4⟩ := h
  have q2 := g5.core
  rw [hc] at q2
  cases q2 with
  | obj h1 h2 h0 h3 h4 h5 h6 =>
    rename_i a dx us A _
    refine ⟨t, a, dx, us, A, g1, g2, rfl, h1, h2, h0, h3, fun b z => q3 b (h6 b z), fun ls ys ws C B' ts' vs' hy hl hC hts hB hd => ?_⟩
    have nB : ∀ b, B b → b ≠ a := fun b z e => x.dB s a (q3 a h5) (by rw [← e]; exact z)
    have nC : ∀ b, C b → b ≠ a := fun b z => (hC b z).elim (fun w e => h4 (by rw [← e]; exact w)) (nB b)
    refine q4 _ (t1.re (.obj D ls ys)) (fun b => b = a ∨ C b) B' ts' vs' (g5.re (.obj upd_same h2 hl (hy.frame (Same.refl F) (fun b z => upd_ne (nC b z)) fun b z => ?_) (fun z => nC a z rfl) (.inl rfl) fun b z => .inr z)) (fun b z => upd_ne fun e => z (by rw [e]; exact h5)) (fun b z e => ?_) ?_ hts hB ?_
    · rcases hC b z with z | z
      · exact (x.fA s b (q3 b (h6 b z))).1
      · exact (x.fB b z).1
    · by_cases hb : b = a
      · rw [hb, upd_same] at e
        cases e
      · rw [upd_ne hb] at e
        exact (x.fA s b (q3 b z)).2 e
    · rintro b (z | z)
      · rw [z]; exact .inl h5
      · exact (hC b z).imp (h6 b) id
    · rintro b (z | z) w
      · exact nB b (hB b w) z
      · exact hd b z w
end
end DL
end
section
set_option autoImplicit false
/-! DL11: what is read without a change: places and values; changes at places. -/
namespace DL
open PySem PySem.Spec PyProof.Rows L2

inductive Qv where
  | dat (d : PyData)
  | pl (s : Nat) (p : List Stp)
def QOk (K : PySem.W.Frag) (P : Par) (G : Gm) (ts : List T) (σ : L2.St) (vs : List V) (H F : Hp) (As : Nat → ASet) (B : ASet) : Qv → V → Prop
  | .dat d, v => Dq K F v d
  | .pl s p, v => ∃ t1 A1, AtPl K P G ts σ vs H F As B s p t1 v A1
abbrev WQ := Gm → Option Qv
def RQ (K : PySem.W.Frag) (t : TE) (f : WQ) : Prop := ∀ (P : Par) (G : Gm) (ts : List T) (σ : L2.St) (vs : List V) (H F : Hp) (As : Nat → ASet) (B : ASet), EnvX K P G ts σ vs H F As B → ∀ (q : Qv) (Q : VK), f G = some q → (∀ v, QOk K P G ts σ vs H F As B q v → Q v H) → t σ H Q
structure PQ (X : Cx) (e : Expr) (t : TE) (f : WQ) : Prop where
  pe : PE X e t
  rq : RQ X.K t f
def placeOf (G : Gm) (s : Nat) (p : List Stp) : Option T := match G[s]? with
  | some (some t) => t.get p
  | _ => none
def qOf (s : Nat) (p : List Stp) (s' : Stp) : T → Qv
  | .d x => .dat x
  | _ => .pl s (p ++ [s'])
theorem T.kid_core (s : Stp) : ∀ t : T, t.kid s = t.core.kid s
  | .at a t => by
    rw [T.kid, T.core]
    exact T.kid_core s t
  | .d _ => rfl
  | .ro _ => rfl
  | .lst _ => rfl
  | .obj _ _ _ => rfl
  | .dk _ _ => rfl
section
variable {K : PySem.W.Frag} {P : Par} {G : Gm} {ts : List T} {σ : L2.St} {vs : List V} {H F : Hp} {As : Nat → ASet} {B : ASet} {s : Nat} {p : List Stp} {t1 u : T} {v : V} {A1 : ASet}
theorem AtPl.of (h : AtPl K P G ts σ vs H F As B s p t1 v A1) : placeOf G s p = some t1 := by
  obtain ⟨t, h1, h2, _⟩ := h
  unfold placeOf
  rw [h1]
  exact h2
theorem AtPl.tr (h : AtPl K P G ts σ vs H F As B s p t1 v A1) : TR K F H t1 v A1 := by
  obtain ⟨t, _, _, _, h, _⟩ := h
  exact h
theorem AtPl.qok {s' : Stp} {j : Nat} (x : EnvX K P G ts σ vs H F As B) (h : AtPl K P G ts σ vs H F As B s p t1 v A1) (hk : t1.kid s' = some (j, u)) : ∃ w, Walk H v [s'] w ∧ QOk K P G ts σ vs H F As B (qOf s p s' u) w := by
  obtain ⟨w, A2, q1, q2⟩ := h.step x hk
  refine ⟨w, q1, ?_⟩
  cases u with
  | d y =>
    cases q2.tr with
    | d h => exact h
  | ro _ => exact ⟨_, _, q2⟩
  | «at» _ _ => exact ⟨_, _, q2⟩
  | lst _ => exact ⟨_, _, q2⟩
  | obj _ _ _ => exact ⟨_, _, q2⟩
  | dk _ _ => exact ⟨_, _, q2⟩
end
def qVar (i : Nat) : WQ := fun G => match G[i]? with
  | some (some t) => some (match t with
    | .d x => .dat x
    | _ => .pl i [])
  | _ => none
theorem rq_var {K : PySem.W.Frag} {i : Nat} : RQ K (tVar i) (qVar i) := by
  intro P G ts σ vs H F As B x q Q hf hq
  unfold qVar at hf
  split at hf
  · rename_i t e
    cases hf
    obtain ⟨r, e1, h⟩ := x.root e
    refine ⟨r, e1, hq r ?_⟩
    cases t with
    | d y =>
      cases h.tr with
      | d h => exact h
    | ro _ => exact ⟨_, _, h⟩
    | «at» _ _ => exact ⟨_, _, h⟩
    | lst _ => exact ⟨_, _, h⟩
    | obj _ _ _ => exact ⟨_, _, h⟩
    | dk _ _ => exact ⟨_, _, h⟩
  · cases hf
def qC (d : PyData) : WQ := fun _ => some (.dat d)
theorem rq_c {K : PySem.W.Frag} {v : V} {d : PyData} (h : ∀ F, Dq K F v d) : RQ K (tC v) (qC d) := fun P G ts σ vs H F As B x q Q hf hq => by
  cases hf
  exact hq v (h F)
/-- the items of a list at a place -/
def lstAt (G : Gm) (s : Nat) (p : List Stp) : Option (List T) := match placeOf G s p with
  | some t1 => match t1.core with
    | .lst ts => some ts
    | _ => none
  | none => none
def dkAt (G : Gm) (s : Nat) (p : List Stp) : Option (List Key × List T) := match placeOf G s p with
  | some t1 => match t1.core with
    | .dk ks ts => some (ks, ts)
    | _ => none
  | none => none
def qIx (fa fb : WQ) : WQ := fun G => match fb G with
  | some (.dat (.int i)) => match fa G with
    | some (.pl s p) => match lstAt G s p with
      | some ts => match ixN ts.length i with
        | some j => match ts[j]? with
          | some u => some (qOf s p (.ix j) u)
          | none => none
        | none => none
      | none => none
    | some (.dat a) => match itemsD a with
      | some ds => match atI ds i with
        | some d => some (.dat d)
        | none => none
      | none => none
    | none => none
  | _ => none
section
variable {K : PySem.W.Frag} {P : Par} {G : Gm} {ts : List T} {σ : L2.St} {vs : List V} {H F : Hp} {As : Nat → ASet} {B : ASet} {s : Nat} {p : List Stp} {t1 u : T} {v : V} {A1 : ASet}
theorem lstAt_core {xs : List T} (h : AtPl K P G ts σ vs H F As B s p t1 v A1) (e : lstAt G s p = some xs) : t1.core = .lst xs := by
  unfold lstAt at e
  rw [h.of] at e
  simp only at e
  split at e
  · rename_i ts q
    cases e
    exact q
  · cases e
theorem dkAt_core {ks : List Key} {xs : List T} (h : AtPl K P G ts σ vs H F As B s p t1 v A1) (e : dkAt G s p = some (ks, xs)) : t1.core = .dk ks xs := by
  unfold dkAt at e
  rw [h.of] at e
  simp only at e
  split at e
  · rename_i q
    cases e
    exact q
  · cases e
end
section
variable {K : PySem.W.Frag} {ta tb : TE} {fa fb : WQ}
theorem rq_ix (ha : RQ K ta fa) (hb : RQ K tb fb) : RQ K (tOp (rIx K) ta tb) (qIx fa fb) := by
  intro P G ts σ vs H F As B x q Q hf hq
  unfold qIx at hf
  split at hf
  · rename_i i eb
    split at hf
    · rename_i s p ea
      split at hf
      · rename_i xs el
        split at hf
        · rename_i j ej
          split at hf
          · rename_i u eu
            cases hf
            refine ha P G ts σ vs H F As B x _ _ ea fun v hv => ?_
            refine hb P G ts σ vs H F As B x _ _ eb fun w hw => ?_
            cases hw
            obtain ⟨t1, A1, h⟩ := hv
            have hc := lstAt_core h el
            obtain ⟨w, hwk, hok⟩ := h.qok x (s' := .ix j) (j := j) (u := u) (by rw [T.kid_core, hc, T.kid, eu])
            obtain ⟨t, a, us, A, _, _, ev, eH, _, htr, _, _⟩ := h.toL x hc
            cases hwk with
            | ix h1 h2 h3 =>
              cases ev
              cases h3
              rw [h1] at eH
              cases eH
              exact .inl ⟨_, us, i, w, rfl, rfl, SqL.of h1, by unfold atI; rw [← htr.len, ej]; exact h2, hq w hok⟩
          · cases hf
        · cases hf
      · cases hf
    · rename_i a ea
      split at hf
      · rename_i ds ed
        split at hf
        · rename_i d e2
          cases hf
          refine ha P G ts σ vs H F As B x _ _ ea fun v hv => ?_
          refine hb P G ts σ vs H F As B x _ _ eb fun w hw => ?_
          cases hw
          cases a with
          | list ds' =>
            cases ed
            obtain ⟨p, us, rfl, h1, h2⟩ := (DatR.sc (H := H) hv).list x.fh
            obtain ⟨w, h3, h4⟩ := atI_dq h2 e2
            exact .inl ⟨p, us, i, w, rfl, rfl, SqL.of h1, h3, hq w h4⟩
          | tuple ds' =>
            cases ed
            obtain ⟨p, us, rfl, h1, h2⟩ := (DatR.sc (H := H) hv).tup x.fh
            obtain ⟨w, h3, h4⟩ := atI_dq h2 e2
            exact .inr (.inl ⟨p, us, i, w, rfl, rfl, h1, h3, hq w h4⟩)
          | none => cases ed
          | bool _ => cases ed
          | int _ => cases ed
          | str _ => cases ed
          | dict _ => cases ed
        · cases hf
      · cases hf
    · cases hf
  · cases hf
def keyV : Key → PyData
  | .inl i => .int i
  | .inr x => .str x
def qKey (fa : WQ) (k : Key) : WQ := fun G => match fa G with
  | some (.pl s p) => match dkAt G s p with
    | some (ks, ts) => match idxK ks k with
      | some j => match ts[j]? with
        | some u => some (qOf s p (.key k) u)
        | none => none
      | none => none
    | none => none
  | _ => none
theorem rq_key {k : Key} (ha : RQ K ta fa) : RQ K (tDGet ta (tC (kV k))) (qKey fa k) := by
  intro P G ts σ vs H F As B x q Q hf hq
  unfold qKey at hf
  split at hf
  · rename_i s p ea
    split at hf
    · rename_i ks xs el
      split at hf
      · rename_i j ej
        split at hf
        · rename_i u eu
          cases hf
          refine ha P G ts σ vs H F As B x _ _ ea fun v hv => ?_
          obtain ⟨t1, A1, h⟩ := hv
          have hc := dkAt_core h el
          obtain ⟨w, hwk, hok⟩ := h.qok x (s' := .key k) (j := j) (u := u) (by rw [T.kid_core, hc, T.kid, ej]; simp only [eu])
          cases hwk with
          | key h1 h0 h2 h3 =>
            cases h3
            rename_i a ks' us i
            refine ⟨a, w, rfl, ?_, hq w hok⟩
            have := idxK_val h0 h2
            have e : valV (ks'.zip us) k = some w := by
              unfold valV
              rw [this]
              rfl
            rw [← e]
            exact DGet.k h1
        · cases hf
      · cases hf
    · cases hf
  · cases hf
/-- len -/
def rLenD (K : PySem.W.Frag) : List V → Hp → VK → Prop := fun xs H Q => ∃ p ys, xs = [.ref p] ∧ (SqL K H p ys ∨ SqT K H p ys) ∧ Q (.int ys.length) H
def qLen (fa : WQ) : WQ := fun G => match fa G with
  | some (.pl s p) => match lstAt G s p with
    | some ts => some (.dat (.int ts.length))
    | none => none
  | some (.dat a) => match itemsD a with
    | some ds => some (.dat (.int ds.length))
    | none => none
  | none => none
theorem rq_len (ha : RQ K ta fa) : RQ K (tCB (rLenD K) (tCons ta tNil)) (qLen fa) := by
  intro P G ts σ vs H F As B x q Q hf hq
  unfold qLen at hf
  split at hf
  · rename_i s p ea
    split at hf
    · rename_i xs el
      cases hf
      refine ha P G ts σ vs H F As B x _ _ ea fun v hv => ?_
      obtain ⟨t1, A1, h⟩ := hv
      obtain ⟨t, a, us, A, _, _, ev, eH, _, htr, _, _⟩ := h.toL x (lstAt_core h el)
      subst ev
      refine ⟨a, us, rfl, .inl (SqL.of eH), ?_⟩
      rw [← htr.len]
      exact hq _ (.int _)
    · cases hf
  · rename_i a ea
    split at hf
    · rename_i ds ed
      cases hf
      refine ha P G ts σ vs H F As B x _ _ ea fun v hv => ?_
      cases a with
      | list ds' =>
        cases ed
        obtain ⟨p, us, rfl, h1, h2⟩ := (DatR.sc (H := H) hv).list x.fh
        refine ⟨p, us, rfl, .inl (SqL.of h1), ?_⟩
        rw [dpa_len h2]
        exact hq _ (.int _)
      | tuple ds' =>
        cases ed
        obtain ⟨p, us, rfl, h1, h2⟩ := (DatR.sc (H := H) hv).tup x.fh
        refine ⟨p, us, rfl, .inr h1, ?_⟩
        rw [dpa_len h2]
        exact hq _ (.int _)
      | none => cases ed
      | bool _ => cases ed
      | int _ => cases ed
      | str _ => cases ed
      | dict _ => cases ed
    · cases hf
  · cases hf
def qI (g : Int → Int → Int) (fa fb : WQ) : WQ := fun G => match fa G, fb G with
  | some (.dat (.int i)), some (.dat (.int j)) => some (.dat (.int (g i j)))
  | _, _ => none
theorem rq_I {r : R2} {g : Int → Int → Int} (hr : ∀ i j H Q, Q (V.int (g i j)) H → r (.int i) (.int j) H Q) (ha : RQ K ta fa) (hb : RQ K tb fb) : RQ K (tOp r ta tb) (qI g fa fb) := by
  intro P G ts σ vs H F As B x q Q hf hq
  unfold qI at hf
  split at hf
  · rename_i i j ea eb
    cases hf
    refine ha P G ts σ vs H F As B x _ _ ea fun v hv => ?_
    refine hb P G ts σ vs H F As B x _ _ eb fun w hw => ?_
    cases hv
    cases hw
    exact hr i j H Q (hq _ (.int _))
  · cases hf
def qNeg (fa : WQ) : WQ := fun G => match fa G with
  | some (.dat (.int i)) => some (.dat (.int (-i)))
  | _ => none
theorem rq_neg (ha : RQ K ta fa) : RQ K (tUn (rU fun i => .int (-i)) ta) (qNeg fa) := by
  intro P G ts σ vs H F As B x q Q hf hq
  unfold qNeg at hf
  split at hf
  · rename_i i ea
    cases hf
    refine ha P G ts σ vs H F As B x _ _ ea fun v hv => ?_
    cases hv
    exact ⟨i, rfl, hq _ (.int _)⟩
  · cases hf
/-- a read value -/
def wQ (f : WQ) : WE := fun G k => match f G with
  | some (.dat d) => k (.t (.d d)) G
  | _ => False
theorem rd_q {t : TE} {f : WQ} (h : RQ K t f) : RD K t (wQ f) := by
  intro P G ts σ vs H k Q x hw hq
  unfold wQ at hw
  split at hw
  · rename_i d e
    obtain ⟨F, As, B, x⟩ := x
    exact h P G ts σ vs H F As B x _ _ e fun v hv => hq (.t (.d d)) G v H (x.push hv).env trivial hw
  · exact hw.elim
/-! changes at places -/
def putAt (G : Gm) (s : Nat) (p : List Stp) (y : T) : Gm := match G[s]? with
  | some (some t) => match t.get p with
    | some t1 => G.set s (some (t.put p (t1.re y)))
    | none => G
  | _ => G
theorem putAt_of {G : Gm} {s : Nat} {p : List Stp} {y t t1 : T} (h1 : G[s]? = some (some t)) (h2 : t.get p = some t1) : putAt G s p y = G.set s (some (t.put p (t1.re y))) := by
  unfold putAt
  rw [h1]
  simp only [h2]
def wPopQ (fo fi : WQ) : WE := fun G k => match fo G, fi G with
  | some (.pl s p), some (.dat (.int i)) => small62 i ∧ match lstAt G s p with
    | some ts => match ixN ts.length i with
      | some j => match ts[j]? with
        | some (.d x) => k (.t (.d x)) (putAt G s p (.lst (ts.eraseIdx j)))
        | _ => False
      | none => False
    | none => False
  | _, _ => False
theorem rd_popQ (ha : RQ K ta fa) (hb : RQ K tb fb) : RD K (tBM K "list" rPopAt ta (tCons tb tNil)) (wPopQ fa fb) := by
  intro P G ts σ vs H k Q x hw hq
  obtain ⟨F, As, B, x⟩ := x
  unfold wPopQ at hw
  split at hw
  · rename_i s p i ea eb
    obtain ⟨hsm, hw⟩ := hw
    split at hw
    · rename_i xs el
      split at hw
      · rename_i j ej
        split at hw
        · rename_i d e4
          refine ha P G ts σ vs H F As B x _ _ ea fun v hv => ?_
          obtain ⟨t1, A1, h⟩ := hv
          obtain ⟨t, a, us, A, g1, g2, ev, eH, _, htr, hA, hput⟩ := h.toL x (lstAt_core h el)
          subst ev
          refine ⟨.inl ⟨rfl, _, SqL.of eH⟩, ?_⟩
          refine hb P G ts σ vs H F As B x _ _ eb fun w hw2 => ?_
          cases hw2
          obtain ⟨v, C, q1, q2, q3⟩ := htr.get e4
          obtain ⟨As3, x3⟩ := hput (xs.eraseIdx j) (us.eraseIdx j) A B ts vs (htr.eraseIdx j) (fun _ z => .inl z) x.tm (fun _ z => z) (fun b z w => x.dB s b (hA b z) w)
          rw [htr.len] at ej
          have b1 := hsm.1
          have b2 := hsm.2
          cases q2 with
          | d q2 =>
            rw [putAt_of g1 g2] at hw
            exact ⟨a, us, i, j, v, rfl, rfl, eH, by omega, by omega, (ixN_seq ej).1, q1, hq (.t (.d d)) _ v _ (x3.push q2).env trivial hw⟩
        · exact hw.elim
      · exact hw.elim
    · exact hw.elim
  · exact hw.elim
/-- place.append(e), e read -/
def wAppQ (fo fe : WQ) : WE := fun G k => match fo G, fe G with
  | some (.pl s p), some (.dat d) => match lstAt G s p with
    | some ts => ts.length < sizeLine ∧ k (.t (.d .none)) (putAt G s p (.lst (ts ++ [.d d])))
    | none => False
  | _, _ => False
theorem rd_appQ (ha : RQ K ta fa) (hb : RQ K tb fb) : RD K (tBM K "list" rAppend ta (tCons tb tNil)) (wAppQ fa fb) := by
  intro P G ts σ vs H k Q x hw hq
  obtain ⟨F, As, B, x⟩ := x
  unfold wAppQ at hw
  split at hw
  · rename_i s p d ea eb
    split at hw
    · rename_i xs el
      refine ha P G ts σ vs H F As B x _ _ ea fun v hv => ?_
      obtain ⟨t1, A1, h⟩ := hv
      obtain ⟨t, a, us, A, g1, g2, ev, eH, _, htr, hA, hput⟩ := h.toL x (lstAt_core h el)
      subst ev
      refine ⟨.inl ⟨rfl, _, SqL.of eH⟩, ?_⟩
      refine hb P G ts σ vs H F As B x _ _ eb fun w hw2 => ?_
      obtain ⟨As3, x3⟩ := hput (xs ++ [.d d]) (us ++ [w]) A B ts vs (htr.append (B := fun _ => False) (TRs.one (.d hw2)) (fun _ _ z => z) (fun _ z => z) fun _ z => z.elim) (fun _ z => .inl z) x.tm (fun _ z => z) (fun b z w => x.dB s b (hA b z) w)
      rw [putAt_of g1 g2] at hw
      exact ⟨a, us, w, rfl, rfl, eH, by rw [← htr.len]; exact hw.1, hq (.t (.d .none)) _ .non _ x3.env.pushN trivial hw.2⟩
    · exact hw.elim
  · exact hw.elim
/-- place[i] = e -/
def wSetQ (we : WE) (fo fi : WQ) : WS := fun D G => we G fun x G1 => match takeOf G1 x with
  | some (z, G2) => match fo G2, fi G2 with
    | some (.pl s p), some (.dat (.int i)) => match lstAt G2 s p with
      | some ts => match ixN ts.length i with
        | some j => D.nx (putAt G2 s p (.lst (ts.set j z)))
        | none => False
      | none => False
    | _, _ => False
  | none => False
theorem rds_setQ {te : TE} {we : WE} (h : RD K te we) (ha : RQ K ta fa) (hb : RQ K tb fb) : RDS K (tAsg te (gSub ta tb rSetL)) (wSetQ we fa fb) := by
  intro P G ts σ vs H D E x hw nx rt bk ct
  refine h P G ts σ vs H _ _ x hw fun y G1 v H1 x1 ho1 hk => ?_
  have hk : (match takeOf G1 y with
  | some (z, G2) => match fa G2, fb G2 with
    | some (.pl s p), some (.dat (.int i)) => match lstAt G2 s p with
      | some ts => match ixN ts.length i with
        | some j => D.nx (putAt G2 s p (.lst (ts.set j z)))
        | none => False
      | none => False
    | _, _ => False
  | none => False) := hk
  split at hk
  · rename_i z G2 e
    obtain ⟨F, As, B, x1⟩ := x1
    obtain ⟨F, As, B, x, _⟩ := x1.takeT ho1 e
    split at hk
    · rename_i s p i ea eb
      split at hk
      · rename_i xs el
        split at hk
        · rename_i j ej
          refine ha P G2 _ σ _ H1 F As B x _ _ ea fun u hu => ?_
          obtain ⟨t1, A1, h⟩ := hu
          obtain ⟨t, a, us, A, g1, g2, ev, eH, _, htr, hA, hput⟩ := h.toL x (lstAt_core h el)
          subst ev
          refine hb P G2 _ σ _ H1 F As B x _ _ eb fun w hw2 => ?_
          cases hw2
          cases x.tm with
          | cons h1 h2 h3 h4 h5 =>
            rename_i A1 A2
            obtain ⟨As4, x4⟩ := hput (xs.set j z) (us.set j v) (fun b => A b ∨ A1 b) A2 ts vs (htr.set h1 (fun b z w => x.dB s b (hA b z) (h4 b w)) (fun b z => .inl z) fun b z => .inr z)
              (fun b z => z.imp id (h4 b)) h2 h5 (fun b z w => z.elim (fun z => x.dB s b (hA b z) (h5 b w)) fun z => h3 b z w)
            rw [htr.len] at ej
            rw [putAt_of g1 g2] at hk
            exact ⟨a, us, i, j, rfl, rfl, eH, ej, nx _ σ _ x4.env hk⟩
        · exact hk.elim
      · exact hk.elim
    · exact hk.elim
  · exact hk.elim
/-- place[k] = e, k a key of it -/
def wPutQ (we : WE) (fo : WQ) (k : Key) : WS := fun D G => we G fun x G1 => match takeOf G1 x with
  | some (z, G2) => match fo G2 with
    | some (.pl s p) => match dkAt G2 s p with
      | some (ks, ts) => ks.Nodup ∧ ks.length < sizeLine ∧ match idxK ks k with
        | some j => D.nx (putAt G2 s p (.dk ks (ts.set j z)))
        | none => False
      | none => False
    | _ => False
  | none => False
theorem rds_putQ {te : TE} {we : WE} {k : Key} (h : RD K te we) (ha : RQ K ta fa) : RDS K (sDPut ta (tC (kV k)) te) (wPutQ we fa k) := by
  intro P G ts σ vs H D E x hw nx rt bk ct
  refine h P G ts σ vs H _ _ x hw fun y G1 v H1 x1 ho1 hk => ?_
  have hk : (match takeOf G1 y with
  | some (z, G2) => match fa G2 with
    | some (.pl s p) => match dkAt G2 s p with
      | some (ks, ts) => ks.Nodup ∧ ks.length < sizeLine ∧ match idxK ks k with
        | some j => D.nx (putAt G2 s p (.dk ks (ts.set j z)))
        | none => False
      | none => False
    | _ => False
  | none => False) := hk
  split at hk
  · rename_i z G2 e
    obtain ⟨F, As, B, x1⟩ := x1
    obtain ⟨F, As, B, x, _⟩ := x1.takeT ho1 e
    split at hk
    · rename_i s p ea
      split at hk
      · rename_i ks xs el
        obtain ⟨hnd, hlen, hk⟩ := hk
        split at hk
        · rename_i j ej
          refine ha P G2 _ σ _ H1 F As B x _ _ ea fun u hu => ?_
          obtain ⟨t1, A1, h⟩ := hu
          obtain ⟨t, a, us, A, g1, g2, ev, eH, _, hl, htr, hA, hput⟩ := h.toD x (dkAt_core h el)
          subst ev
          cases x.tm with
          | cons h1 h2 h3 h4 h5 =>
            rename_i A1 A2
            obtain ⟨As4, x4⟩ := hput (xs.set j z) (us.set j v) (fun b => A b ∨ A1 b) A2 ts vs (htr.set h1 (fun b z w => x.dB s b (hA b z) (h4 b w)) (fun b z => .inl z) fun b z => .inr z) (by rw [List.length_set]; exact hl)
              (fun b z => z.imp id (h4 b)) h2 h5 (fun b z w => z.elim (fun z => x.dB s b (hA b z) (h5 b w)) fun z => h3 b z w)
            rw [putAt_of g1 g2] at hk
            refine ⟨a, _, rfl, DPut.k eH (by rw [List.length_zip]; omega), ?_⟩
            have hlt : j < us.length := by
              have := (List.getElem?_eq_some_iff.mp (idxK_get ej)).1
              omega
            have e1 : putK (ks.zip us) k v = ks.zip (us.set j v) := by
              unfold putK
              rw [if_pos, idxK_map v ej hnd hl]
              rw [valV_any]
              unfold valV
              rw [idxK_val ej (List.getElem?_eq_getElem hlt)]
              rfl
            rw [e1]
            exact nx _ σ _ x4.env hk
        · exact hk.elim
      · exact hk.elim
    · exact hk.elim
  · exact hk.elim
end
end DL
end
section
set_option autoImplicit false
/-! DL12: the rules for places as they are written; defs that change what is handed in first. -/
namespace DL
open PySem PySem.Spec PyProof.Rows L2

section
variable {X : Cx} {a b e : Expr} {ta tb te : TE} {fa fb fe : WQ} {we : WE} {p pos : Pos}
theorem pq_var (i : Nat) {x : Str} (hN : X.N[i]? = some x := by rfl) (hv : Vis X.env.scope x := by first | exact Or.inl rfl | exact Or.inr (Or.inl rfl) | exact Or.inr (Or.inr rfl)) (hd : (x == ("__debug__" : Str)) = false := by decide) (hcd : (x == ("__classdict__" : Str)) = false := by decide) : PQ X (.Name x pos) (tVar i) (qVar i) := ⟨pe_var hN hv hd hcd, rq_var⟩
theorem pq_int {i : Int} {j : Nat} : PQ X (.Constant (.int i) j pos) (tC (.int i)) (qC (.int i)) := ⟨pe_int, rq_c fun _ => .int i⟩
theorem pq_ix (ha : PQ X a ta fa) (hb : PQ X b tb fb) (hs : PlainIx b := by exact fun _ _ => rfl) : PQ X (.Subscript a b pos) (tOp (rIx X.K) ta tb) (qIx fa fb) := ⟨pe_ix ix_seq ha.pe hb.pe hs, rq_ix ha.rq hb.rq⟩
theorem pq_key {x : Str} {j : Nat} {p2 : Pos} (hu : X.A.units + 1 < cLine) (ha : PQ X a ta fa) (hs : NoSl (.Constant (.str x) j p2) := by exact fun _ _ => rfl) : PQ X (.Subscript a (.Constant (.str x) j p2) pos) (tDGet ta (tC (kV (.inr x)))) (qKey fa (.inr x)) := ⟨pe_dget hu ha.pe pe_str hs, rq_key ha.rq⟩
def pq_len (B : Bl X.mg) (ha : PQ X a ta fa) (hg : Gl X "len" := by rfl) (h1 : starEach [a] X.env = (false, eval a X.env) :: starEach [] X.env := by rfl) (h2 : (backTo pos (starEach [] X.env)).any (·.1) = false := by rfl) := ((⟨pe_callB call_len_seq hg B.len bt_len (pa_cons ha.pe pa_nil h1) (by decide) (by decide) h1 h2, rq_len ha.rq⟩ : PQ X (.Call (.Name "len" p) [a] [] pos) (tCB (rLenD X.K) (tCons ta tNil)) (qLen fa)))
theorem pq_add (ha : PQ X a ta fa) (hb : PQ X b tb fb) : PQ X (.BinOp a .Add b pos) (tOp (rAddA X.K) ta tb) (qI (fun i j => i + j) fa fb) := ⟨pe_op op_addA ha.pe hb.pe, rq_I (fun i j H Q h => .inl ⟨i, j, rfl, rfl, h⟩) ha.rq hb.rq⟩
theorem pq_sub (ha : PQ X a ta fa) (hb : PQ X b tb fb) : PQ X (.BinOp a .Sub b pos) (tOp (rI0 fun i j => .int (i - j)) ta tb) (qI (fun i j => i - j) fa fb) := ⟨pe_op op_sub ha.pe hb.pe, rq_I (fun i j H Q h => ⟨i, j, rfl, rfl, h⟩) ha.rq hb.rq⟩
theorem pq_neg (ha : PQ X a ta fa) : PQ X (.UnaryOp .USub a pos) (tUn (rU fun i => .int (-i)) ta) (qNeg fa) := ⟨pe_un un_neg ha.pe, rq_neg ha.rq⟩
theorem pd_q (h : PQ X e te fe) : PD X e te (wQ fe) := ⟨h.pe, rd_q h.rq⟩
def d_popQ {apos : Pos} (ha : PQ X a ta fa) (hb : PQ X b tb fb)
    (hbase : attributeBase a "pop" X.env (eval a X.env) = eval a X.env := by rfl)
    (hfew : ((backTo pos (starEach [b] X.env)).all (fun x => !x.1) && (backToKw pos (keywordEach [] X.env)).all (fun x => x.1.isSome) && decide ([b].length + ([] : List Keyword).length + (if ([] : List Keyword).isEmpty then 0 else 1) < 30)) = true := by rfl)
    (hline : (apos.endLine == pos.line) = true := by rfl) (hs : starEach [b] X.env = (false, eval b X.env) :: starEach [] X.env := by rfl) (hplain : (backTo pos (starEach [] X.env)).any (·.1) = false := by rfl) := ((
  ⟨pe_bm PySem.F.plainAttrs_list PySem.F.slot_list_pop PySem.F.type_list_pop mt_popAt ha.pe (pa_cons hb.pe pa_nil hs) hbase hfew hline hs hplain, rd_popQ ha.rq hb.rq⟩ : PD X (.Call (.Attribute a "pop" apos) [b] [] pos) _ (wPopQ fa fb)))
def d_appQ {apos : Pos} (ha : PQ X a ta fa) (hb : PQ X b tb fb)
    (hbase : attributeBase a "append" X.env (eval a X.env) = eval a X.env := by rfl)
    (hfew : ((backTo pos (starEach [b] X.env)).all (fun x => !x.1) && (backToKw pos (keywordEach [] X.env)).all (fun x => x.1.isSome) && decide ([b].length + ([] : List Keyword).length + (if ([] : List Keyword).isEmpty then 0 else 1) < 30)) = true := by rfl)
    (hline : (apos.endLine == pos.line) = true := by rfl) (hs : starEach [b] X.env = (false, eval b X.env) :: starEach [] X.env := by rfl) (hplain : (backTo pos (starEach [] X.env)).any (·.1) = false := by rfl) := ((
  ⟨pe_bm PySem.F.plainAttrs_list PySem.F.slot_list_append PySem.F.type_list_append mt_append ha.pe (pa_cons hb.pe pa_nil hs) hbase hfew hline hs hplain, rd_appQ ha.rq hb.rq⟩ : PD X (.Call (.Attribute a "append" apos) [b] [] pos) _ (wAppQ fa fb)))
def psd_setQ {spos : Pos} (he : PD X e te we) (ha : PQ X a ta fa) (hb : PQ X b tb fb)
    (hst : ∀ v, assign (.Subscript a b spos) X.env v = (do
      let ov ← holding [v] (eval a X.env)
      let iv ← holding [v, ov] (eval b X.env)
      standAt spos
      holding [v, ov, iv] (setItem ov iv v)
      release [v, ov, iv] []) := by intro _; rfl)
    (hs : swapsWithSole [.Subscript a b spos] e pos.line X.env = pure false := by rfl) (hw : swappedStores [.Subscript a b spos] e X.env = pure none := by rfl)
    (h1 : (assignEach [.Subscript a b spos] X.env).map (·.2) = [assign (.Subscript a b spos) X.env] := by rfl) := ((
  ⟨ps_asg he.pe (pg_sub ha.pe hb.pe set_list hst) hs hw h1, rds_setQ he.rd ha.rq hb.rq⟩ : PSD X (.Assign [.Subscript a b spos] e pos) _ (wSetQ we fa fb)))
def psd_putQ {x : Str} {j : Nat} {p2 spos : Pos} (hu : X.A.units + 1 < cLine) (he : PD X e te we) (ha : PQ X a ta fa)
    (hs : swapsWith e (some (.Subscript a (.Constant (.str x) j p2) spos)) pos.line X.env = pure false := by rfl) := ((
  ⟨ps_dput hu ha.pe pe_str he.pe hs, rds_putQ (k := .inr x) he.rd ha.rq⟩ : PSD X (.Assign [.Subscript a (.Constant (.str x) j p2) spos] e pos) (sDPut ta (tC (kV (.inr x))) te) (wPutQ we fa (.inr x))))
end

/-! ### what is handed in first is changed -/
structure FO where
  α : Type
  own : α → T
  args : α → List PyData
  pre : α → Prop
  post : α → T → T → Prop
def spO (K : PySem.W.Frag) (S : FO) : Sp := fun vs H Q _ => ∃ (F : Hp) (x : S.α) (a : Addr) (us : List V) (A : ASet), vs = .ref a :: us ∧ TR K F H (S.own x) (.ref a) A ∧ (∀ b, A b → F b = none ∧ H b ≠ none) ∧ DqAll K F us (S.args x) ∧ Same F H ∧ S.pre x ∧
  ∀ (r t' : T) (v : V) (H' F' : Hp) (Ar At : ASet), S.post x r t' → Same F F' → Same F' H' → (∀ b o, H b = some o → ¬ A b → H' b = some o) → TR K F' H' r v Ar → TR K F' H' t' (.ref a) At → (∀ b, Ar b → ¬ At b) →
    (∀ b, Ar b ∨ At b → (A b ∨ H b = none) ∧ F' b = none ∧ H' b ≠ none) → (∀ b o, F' b = some o → F b = some o ∨ A b ∨ H b = none) → Q v H'
def startO (n : Nat) (a : Addr) (t : T) (ds : List PyData) : Gm := some (.at a t) :: startG (n - 1) ds
def lookO (G : Gm) : Tm → Option T
  | .t x => some x
  | .al 0 => none
  | .al (i + 1) => match G[i + 1]? with
    | some (some t) => some t
    | _ => none
def endsO (a : Addr) (post : T → T → Prop) : DEnds :=
  { nx := fun G => ∃ t', G[0]? = some (some (.at a t')) ∧ post (.d .none) t', rt := fun x G => ∃ r t', lookO G x = some r ∧ G[0]? = some (some (.at a t')) ∧ post r t' }
section
variable {K : PySem.W.Frag} {P : Par} {G : Gm} {ts : List T} {σ : L2.St} {vs : List V} {H F : Hp} {As : Nat → ASet} {B : ASet}
theorem EnvX.lookO {y : Tm} {v : V} {t : T} (x : EnvX K P G (pushT y ts) σ (pushV y v vs) H F As B) (ho : AlOk σ y v) (e : lookO G y = some t) : ∃ A, TR K F H t v A ∧ (∀ b, A b → ¬ As 0 b) ∧ ∀ b, A b → (B b ∨ ∃ i, As i b) := by
  cases y with
  | t y =>
    cases e
    cases x.tm with
    | cons h1 h2 h3 h4 h5 => exact ⟨_, h1, fun b z w => x.dB 0 b w (h4 b z), fun b z => .inl (h4 b z)⟩
  | al i =>
    cases i with
    | zero => cases e
    | succ i =>
      have e : (match G[i + 1]? with
        | some (some t) => some t
        | _ => none) = some t := e
      have ho : σ[i + 1]? = some (some v) := ho
      split at e
      · rename_i t' e2
        cases e
        obtain ⟨v', e3, h⟩ := x.sl (i + 1) _ e2
        rw [ho] at e3
        cases e3
        exact ⟨_, h, fun b z w => x.dj (i + 1) 0 (by omega) b z w, fun b z => .inr ⟨i + 1, z⟩⟩
      · cases e
open Classical in
/-- a def's body that changes what is handed in first -/
theorem spO_body {N : List Str} {body : List Stmt} {X : Cx} {t : TS} {w : WS} {S : FO} {vs : List V} {H : Hp} {Q : VK} {E : XK} (hK : X.K = K) (h : PSsD X body t w) (hN : vs.length ≤ N.length)
    (hw : ∀ x a, S.pre x → w (endsO a (S.post x)) (startO N.length a (S.own x) (S.args x))) (hs : spO K S vs H Q E) : t { nx := fun _ H' => Q .non H', rt := Q } (L2.start N vs) H := by
  subst hK
  obtain ⟨F, x, a, us, A, ev, hown, hA, hd, fh, hr, q⟩ := hs
  subst ev
  have hw := hw x a hr
  generalize S.args x = ds at hd hw
  generalize S.own x = ot at hown hw
  have hl := dpa_len hd
  have hNl : us.length + 1 ≤ N.length := hN
  have e0 : EnvX X.K ⟨F, fun b => if F b = none ∧ ¬ A b then H b else none⟩ (startO N.length a ot ds) [] (L2.start N (.ref a :: us)) [] H F (fun i => if i = 0 then A else fun _ => False) (fun _ => False) := by
    have sub : ∀ i b, (if i = 0 then A else fun _ => False) b → i = 0 ∧ A b := fun i b z => by
      by_cases hi : i = 0
      · rw [if_pos hi] at z
        exact ⟨hi, z⟩
      · rw [if_neg hi] at z
        exact z.elim
    refine ⟨Same.refl F, fh, fun b o z => ?_, fun b o z => ?_, fun b o z i w => ?_, fun _ _ _ z => z, fun i t z => ?_, .nil, fun i j hij b z w => hij ((sub i b z).1.trans (sub j b w).1.symm), fun _ _ _ z => z, fun i b z => hA b (sub i b z).2, fun _ z => z.elim, trivial, ?_⟩
    · have z : (if F b = none ∧ ¬ A b then H b else none) = some o := z
      split at z
      · exact z
      · cases z
    · have z : (if F b = none ∧ ¬ A b then H b else none) = some o := z
      split at z
      · rename_i e
        exact e.1
      · cases z
    · have z : (if F b = none ∧ ¬ A b then H b else none) = some o := z
      split at z
      · rename_i e
        exact e.2 (sub i b w).2
      · cases z
    · cases i with
      | zero =>
        have z : some (some (T.at a ot)) = some (some t) := z
        cases z
        refine ⟨.ref a, ?_, ?_⟩
        · unfold L2.start
          rfl
        · rw [if_pos rfl]
          exact .at hown
      | succ i =>
        have z : (startG (N.length - 1) ds)[i]? = some (some t) := z
        obtain ⟨d, rfl, z2⟩ := startG_some z
        obtain ⟨v, e1, e2⟩ := dpa_get hd z2
        refine ⟨v, ?_, .d e2⟩
        unfold L2.start
        rw [List.getElem?_append_left (by rw [List.length_map, List.length_cons]; have := (List.getElem?_eq_some_iff.mp e1).1; omega), List.getElem?_map, List.getElem?_cons_succ, e1]
        rfl
    · unfold startO startG L2.start
      simp only [List.length_cons, List.length_append, List.length_map, List.length_replicate]
      omega
  have fin : ∀ (G' : Gm) (ts' : List T) (σ' : L2.St) (vs' : List V) (H' F' : Hp) (As : Nat → ASet) (B : ASet) (v : V) (Ar : ASet) (r t' : T), S.post x r t' → EnvX X.K ⟨F, fun b => if F b = none ∧ ¬ A b then H b else none⟩ G' ts' σ' vs' H' F' As B → TR X.K F' H' r v Ar → G'[0]? = some (some (.at a t')) →
      (∀ b, Ar b → ¬ As 0 b) → (∀ b, Ar b → (B b ∨ ∃ i, As i b)) → Q v H' := fun G' ts' σ' vs' H' F' As B v Ar r t' hpost x ht h0 hdj hAr => by
    have fm : ∀ b, F b = none → ¬ A b → ∀ o, H b = some o → (if F b = none ∧ ¬ A b then H b else none) = some o := fun b h1 h2 o e => by rw [if_pos ⟨h1, h2⟩, e]
    obtain ⟨v0, _, hat⟩ := x.sl 0 _ h0
    have hat : ∃ v0, TR X.K F' H' t' v0 (As 0) ∧ v0 = .ref a := by
      cases hat with
      | «at» h => exact ⟨_, h, rfl⟩
    obtain ⟨_, hat, rfl⟩ := hat
    have own : ∀ b, (B b ∨ ∃ i, As i b) → (A b ∨ H b = none) ∧ F' b = none ∧ H' b ≠ none := fun b z => by
      have live : F' b = none ∧ H' b ≠ none := by
        rcases z with z | ⟨i, z⟩
        · exact x.fB b z
        · exact x.fA i b z
      refine ⟨?_, live⟩
      by_cases hAb : A b
      · exact .inl hAb
      · refine .inr ?_
        cases e : H b with
        | none => rfl
        | some o =>
          exfalso
          cases e2 : F b with
          | none =>
            have e4 := fm b e2 hAb o e
            rcases z with z | ⟨i, z⟩
            · exact x.fmB b o e4 z
            · exact x.fmA b o e4 i z
          | some o' =>
            have := x.hb b o' e2
            rw [live.1] at this
            cases this
    refine q r t' v H' F' Ar (As 0) hpost x.hb x.fh (fun b o z hAb => ?_) ht hat hdj (fun b z => own b (z.elim (hAr b) fun z => .inr ⟨0, z⟩)) fun b o z => ?_
    · cases e : F b with
      | none => exact x.fm b o (fm b e hAb o z)
      | some o' =>
        have := fh b o' e
        rw [z] at this
        cases this
        exact x.fh b o (x.hb b o e)
    · cases e2 : F b with
      | none =>
        refine .inr ?_
        by_cases hAb : A b
        · exact .inl hAb
        · refine .inr ?_
          cases e : H b with
          | none => rfl
          | some o' =>
            have := x.fmF b o' (fm b e2 hAb o' e)
            rw [z] at this
            cases this
      | some o' =>
        have := x.hb b o' e2
        rw [z] at this
        cases this
        exact .inl rfl
  refine h.rd _ _ _ _ _ _ _ _ e0.env hw (fun G' σ' H' x hn => ?_) (fun y G' v σ' H' x ho hk => ?_) (fun _ _ _ _ z => z.elim) (fun _ _ _ _ z => z.elim)
  · obtain ⟨F', As, B, x⟩ := x
    obtain ⟨t', h0, hp⟩ := hn
    exact fin _ _ _ _ H' F' As B .non (fun _ => False) _ t' hp x (.d .non) h0 (fun _ z => z.elim) fun _ z => z.elim
  · obtain ⟨F', As, B, x⟩ := x
    obtain ⟨r, t', hk, h0, hp⟩ := hk
    obtain ⟨A, ht, hdj, hA⟩ := x.lookO ho hk
    exact fin _ _ _ _ H' F' As B v A r t' hp x ht h0 hdj hA
end
theorem spO_len {K : PySem.W.Frag} {S : FO} {n : Nat} (h : ∀ x, (S.args x).length + 1 = n) : ∀ vs H Q E, spO K S vs H Q E → vs.length = n := fun vs H Q E ⟨F, x, a, us, A, ev, _, _, hd, _⟩ => by
  rw [ev, List.length_cons, dpa_len hd]
  exact h x
structure DefO (P : Program) (w : World) (K : PySem.W.Frag) (mg : Str → Option Value) (base : Heap) (k : Nat) (x : Str) (n : Nat) (S : FO) : Prop where
  ex : ∃ (f : Addr) (fd : FuncData) (ps : List Str), FnOk P w K mg base CX0 k f fd ps (spO K S) ∧ mg x = some (.ref f) ∧ PySem.W.keepIn K (.ref f) = true ∧ Binds K fd ps [] ∧ ps.length = n
theorem ok_fnO {P : Program} {w : World} {K : PySem.W.Frag} {mg : Str → Option Value} {base : Heap} {x qual : Str} {st : Stmt} {f : Addr} {fd : FuncData} {N ps : List Str} {k n : Nat} {S : FO} (F : Fun K x qual st f fd) (hm : mg x = some (.ref f)) (hb : Binds K fd ps []) (C : FnScope N ps (defScope st))
    (seer : base.NoSeer) (tree : P.given.tree = none) (hn : ps.length = n) (hk : 40 ≤ k) (hps : ps.length ≤ N.length) (hl : ∀ x, (S.args x).length + 1 = ps.length)
    (hbody : ∀ (cdv : Value) (A : Around) (outer : List PySem.Env) (s : Shared) (H : Hp) (E : XK), Room k (A.deeper (envOfC qual (defScope st) s.heap.objs.size f cdv)) → Big (cxOf CX0 P w K mg base N qual (defScope st) f cdv A outer s H E).nox →
      ∃ t w', PSsD (cxOf CX0 P w K mg base N qual (defScope st) f cdv A outer s H E).nox (defBody st) t w' ∧ ∀ x a, S.pre x → w' (endsO a (S.post x)) (startO N.length a (S.own x) (S.args x))) : DefO P w K mg base (k + 1) x n S := by
  refine ⟨f, fd, ps, F.ok C (spO_len hl) (fun cdv A outer s H vs Q E hr h => ?_), hm, F.kp, hb, hn⟩
  have big : Big (cxOf CX0 P w K mg base N qual (defScope st) f cdv A outer s H E).nox := by
    refine ⟨seer, tree, ?_, envOfC qual (defScope st) s.heap.objs.size f cdv, outer, rfl, C.gen, C.co, rfl, rfl⟩
    have := hr.dp
    show (A.deeper (envOfC qual (defScope st) s.heap.objs.size f cdv)).depth + 100 < recursionLimit
    omega
  obtain ⟨t, w', h1, h2⟩ := hbody cdv A outer s H E hr big
  exact ⟨t, h1.ps, spO_body rfl h1 (by rw [spO_len hl vs H Q E h]; exact hps) h2 h⟩
/-! calls: a slot's own thing is handed in first -/
def T.held : T → Bool
  | .at _ _ => true
  | .lst _ => true
  | .obj _ _ _ => true
  | .dk _ _ => true
  | _ => false
def wCallO (S : FO) (s : Nat) (wa : WA) : WE := fun G k => (match G[s]? with
    | some (some t) => t.held = true
    | _ => False) ∧ wa G fun xs G1 => match frzsOf G1 xs with
  | some (ds, G2) => match G2[s]? with
    | some (some t) => t.held = true ∧ ∃ x, t.core = S.own x ∧ ds = S.args x ∧ S.pre x ∧ ∀ r t', S.post x r t' → k (.t r) (G2.set s (some (t.re t')))
    | _ => False
  | none => False
theorem rd_callO {K : PySem.W.Frag} {S : FO} {s : Nat} {ta : TA} {wa : WA} {E : XK} (h : RDA K ta wa) : RD K (tCall (spO K S) [] E (tCons (tVar s) ta)) (wCallO S s wa) := by
  intro P G ts σ vs H k Q x hw hq
  obtain ⟨hs, hw⟩ := hw
  obtain ⟨u0, es⟩ : ∃ r, σ[s]? = some (some r) := by
    split at hs
    · rename_i t e
      obtain ⟨F, As, B, x⟩ := x
      obtain ⟨r, e1, _⟩ := x.sl s t e
      exact ⟨r, e1⟩
    · exact hs.elim
  refine ⟨u0, es, ?_⟩
  refine h P G ts σ vs H _ _ x hw fun xs G1 us H1 x1 ho hk => ?_
  have hk : (match frzsOf G1 xs with
  | some (ds, G2) => match G2[s]? with
    | some (some t) => t.held = true ∧ ∃ x, t.core = S.own x ∧ ds = S.args x ∧ S.pre x ∧ ∀ r t', S.post x r t' → k (.t r) (G2.set s (some (t.re t')))
    | _ => False
  | none => False) := hk
  obtain ⟨F, As, B, x1⟩ := x1
  split at hk
  · rename_i ds G2 e
    obtain ⟨F', As', B', x2, _, r2⟩ := x1.frzs ho e
    split at hk
    · rename_i t e2
      obtain ⟨hh, x, hc, rfl, hr, hk⟩ := hk
      obtain ⟨v0, e3, htr⟩ := x2.sl s t e2
      rw [es] at e3
      cases e3
      obtain ⟨a, rfl⟩ : ∃ a, u0 = .ref a := by
        cases htr with
        | «at» _ => exact ⟨_, rfl⟩
        | lst _ _ _ _ _ _ => exact ⟨_, rfl⟩
        | obj _ _ _ _ _ _ _ => exact ⟨_, rfl⟩
        | dk _ _ _ _ _ _ _ => exact ⟨_, rfl⟩
        | d _ => cases hh
        | ro _ => cases hh
      have hown := htr.core
      rw [hc] at hown
      show spO K S ((.ref a :: us) ++ []) H1 Q E
      rw [List.append_nil]
      refine ⟨F', x, a, us, As' s, rfl, hown, x2.fA s, r2, x2.fh, hr, fun r t' v H' F2 Ar At hpost s1 s2 s3 ht hat hdj hA hF => ?_⟩
      have offF : ∀ b, F' b = none → H1 b ≠ none → ¬ As' s b → F2 b = none := fun b z1 z2 z3 => by
        cases e : F2 b with
        | none => rfl
        | some o =>
          rcases hF b o e with z | z | z
          · rw [z1] at z
            cases z
          · exact absurd z z3
          · exact absurd z z2
      have keepH : ∀ b, H1 b ≠ none → ¬ As' s b → H' b = H1 b := fun b z z3 => by
        cases e : H1 b with
        | none => exact absurd e z
        | some o => exact s3 b o e z3
      have nAs : ∀ b, Ar b ∨ At b → ∀ j, j ≠ s → ¬ As' j b := fun b z j hj w => by
        rcases (hA b z).1 with q | q
        · exact x2.dj j s hj b w q
        · exact (x2.fA j b w).2 q
      have nB : ∀ b, Ar b ∨ At b → ¬ B' b := fun b z w => by
        rcases (hA b z).1 with q | q
        · exact x2.dB s b q w
        · exact (x2.fB b w).2 q
      have nFm : ∀ b o, P.Fm b = some o → ¬ (Ar b ∨ At b) := fun b o z w => by
        rcases (hA b w).1 with q | q
        · exact x2.fmA b o z s q
        · exact (ne_none_of (x2.fm b o z)) q
      have key : ∀ j b, (if j = s then At else As' j) b → (j = s ∧ At b) ∨ (j ≠ s ∧ As' j b) := fun j b z => by
        by_cases hj : j = s
        · rw [if_pos hj] at z
          exact .inl ⟨hj, z⟩
        · rw [if_neg hj] at z
          exact .inr ⟨hj, z⟩
      have hsl : s < G2.length := (List.getElem?_eq_some_iff.mp e2).1
      refine hq (.t r) _ v H' ⟨F2, fun j => if j = s then At else As' j, fun b => Ar b ∨ B' b, ?_⟩ trivial (hk r t' hpost)
      refine ⟨x2.hb.trans s1, s2, fun b o z => ?_, fun b o z => offF b (x2.fmF b o z) (ne_none_of (x2.fm b o z)) (x2.fmA b o z s), fun b o z j w => ?_, fun b o z w => w.elim (fun w => nFm b o z (.inl w)) (x2.fmB b o z), fun j t2 z => ?_, ?_, fun i j hij b z w => ?_, fun j b z w => ?_, fun j b z => ?_, fun b z => ?_, trivial, by rw [List.length_set]; exact x2.len⟩
      · exact s3 b o (x2.fm b o z) (x2.fmA b o z s)
      · rcases key j b w with ⟨_, w⟩ | ⟨_, w⟩
        · exact nFm b o z (.inr w)
        · exact x2.fmA b o z j w
      · by_cases hj : j = s
        · subst hj
          rw [List.getElem?_set_self hsl] at z
          cases z
          refine ⟨.ref a, es, ?_⟩
          rw [if_pos rfl]
          exact htr.re hat
        · rw [List.getElem?_set_ne (Ne.symm hj)] at z
          obtain ⟨v', e1, h1⟩ := x2.sl j t2 z
          refine ⟨v', e1, ?_⟩
          rw [if_neg hj]
          exact h1.frame s1 (fun b z => keepH b (x2.fA j b z).2 fun w => x2.dj j s hj b z w) fun b z => offF b (x2.fA j b z).1 (x2.fA j b z).2 fun w => x2.dj j s hj b z w
      · exact .cons (A1 := Ar) (A2 := B') ht (x2.tm.frame s1 (fun b z => keepH b (x2.fB b z).2 fun w => x2.dB s b w z) fun b z => offF b (x2.fB b z).1 (x2.fB b z).2 fun w => x2.dB s b w z) (fun b z w => nB b (.inl z) w) (fun b z => .inl z) fun b z => .inr z
      · rcases key i b z with ⟨e1, z⟩ | ⟨e1, z⟩ <;> rcases key j b w with ⟨e2, w⟩ | ⟨e2, w⟩
        · exact hij (e1.trans e2.symm)
        · exact nAs b (.inr z) j e2 w
        · exact nAs b (.inr w) i e1 z
        · exact x2.dj i j hij b z w
      · rcases key j b z with ⟨_, z⟩ | ⟨hj, z⟩ <;> rcases w with w | w
        · exact hdj b w z
        · exact nB b (.inr z) w
        · exact nAs b (.inl w) j hj z
        · exact x2.dB j b z w
      · rcases key j b z with ⟨_, z⟩ | ⟨hj, z⟩
        · exact (hA b (.inr z)).2
        · exact ⟨offF b (x2.fA j b z).1 (x2.fA j b z).2 fun w => x2.dj j s hj b z w, by rw [keepH b (x2.fA j b z).2 fun w => x2.dj j s hj b z w]; exact (x2.fA j b z).2⟩
      · rcases z with z | z
        · exact (hA b (.inl z)).2
        · exact ⟨offF b (x2.fB b z).1 (x2.fB b z).2 fun w => x2.dB s b w z, by rw [keepH b (x2.fB b z).2 fun w => x2.dB s b w z]; exact (x2.fB b z).2⟩
    · exact hk.elim
  · exact hk.elim
section
variable {X : Cx} {es : List Expr} {ta : TA} {wa : WA} {p p2 pos : Pos}
theorem pd_callO (s : Nat) {k n : Nat} {x y : Str} {S : FO} (D : DefO X.prog X.w X.K X.mg X.base k x n S) (hr : Room k X.A) (ha : PAD X es ta wa) (hg : Gl X x := by rfl) (hN : X.N[s]? = some y := by rfl) (hv : Vis X.env.scope y := by first | exact Or.inl rfl | exact Or.inr (Or.inl rfl) | exact Or.inr (Or.inr rfl)) (hd : (y == ("__debug__" : Str)) = false := by decide) (hcd : (y == ("__classdict__" : Str)) = false := by decide)
    (hdb : (x == ("__debug__" : Str)) = false := by decide) (he : starEach (.Name y p2 :: es) X.env = (false, eval (.Name y p2) X.env) :: starEach es X.env := by rfl) (hpl : (backTo pos (starEach es X.env)).any (·.1) = false := by rfl) :
    PD X (.Call (.Name x p) (.Name y p2 :: es) [] pos) (tCall (spO X.K S) [] (fun _ _ _ => False) (tCons (tVar s) ta)) (wCallO S s wa) := by
  obtain ⟨f, fd, ps, F, hm, hk, hb, _⟩ := D.ex
  exact ⟨pe_call F hr hg hm hk hb .nil pass0 (pa_cons (pe_var hN hv hd hcd) ha.pe he) hdb he hpl, rd_callO ha.rd⟩
end
end DL
end
section
set_option autoImplicit false
/-! DL13: dict displays. -/
namespace DL
open PySem PySem.Spec PyProof.Rows L2

section
variable {K : PySem.W.Frag} {P : Par} {G : Gm} {ts : List T} {σ : L2.St} {vs : List V} {H F : Hp} {As : Nat → ASet} {B : ASet}
theorem trs_split {ts2 : List T} {ws : List V} : ∀ (ts1 : List T) (us : List V) (B : ASet), ts1.length = us.length → TRs K F H (ts1 ++ ts2) (us ++ ws) B → ∃ B1 B2 : ASet, TRs K F H ts1 us B1 ∧ TRs K F H ts2 ws B2 ∧ (∀ b, B1 b → ¬ B2 b) ∧ (∀ b, B1 b → B b) ∧ (∀ b, B2 b → B b)
  | [], [], B, _, h => ⟨fun _ => False, B, .nil, h, fun _ z => z.elim, fun _ z => z.elim, fun _ z => z⟩
  | [], _ :: _, _, hl, _ => by cases hl
  | _ :: _, [], _, hl, _ => by cases hl
  | t :: ts1, u :: us, B, hl, h => by
    cases h with
    | cons h1 h2 h3 h4 h5 =>
      obtain ⟨B1, B2, q1, q2, q3, q4, q5⟩ := trs_split ts1 us _ (Nat.succ.inj hl) h2
      rename_i A1 A2
      exact ⟨fun b => A1 b ∨ B1 b, B2, .cons h1 q1 (fun b z w => h3 b z (q4 b w)) (fun b z => .inl z) (fun b z => .inr z), q2, fun b z w => z.elim (fun z => h3 b z (q5 b w)) fun z => q3 b z w,
        fun b z => z.elim (h4 b) fun z => h5 b (q4 b z), fun b z => h5 b (q5 b z)⟩
/-- a new object of one's own -/
theorem EnvX.allocT (x : EnvX K P G ts σ vs H F As B) {p : Addr} {o : HO} {t0 : T} (hp : H p = none) (ht : ∀ H' : Hp, F p = none → H' p = some o → TR K F H' t0 (.ref p) (fun b => b = p)) :
    EnvX K P G (t0 :: ts) σ (.ref p :: vs) (upd H p o) F As (fun b => b = p ∨ B b) := by
  have fp : F p = none := Same.none x.fh hp
  have nA : ∀ i b, As i b → b ≠ p := fun i b q e => by
    subst e
    exact (x.fA i b q).2 hp
  have nB : ∀ b, B b → b ≠ p := fun b q e => by
    subst e
    exact (x.fB b q).2 hp
  have nF : ∀ b o, P.Fm b = some o → b ≠ p := fun b o q => ne_of_none (x.fm b o q) hp
  refine ⟨x.hb, fun b o q => same_upd hp _ _ (x.fh b o q), fun b o q => same_upd hp _ _ (x.fm b o q), x.fmF, x.fmA, fun b o q z => z.elim (nF b o q) (x.fmB b o q), fun i t q => ?_, ?_, x.dj, fun i b q z => z.elim (nA i b q) (x.dB i b q), fun i b q => ?_, fun b q => ?_, x.pn, x.len⟩
  · obtain ⟨v, e, h⟩ := x.sl i t q
    exact ⟨v, e, h.frame (Same.refl F) (fun b z => upd_ne (nA i b z)) fun b z => (x.fA i b z).1⟩
  · exact .cons (A1 := fun b => b = p) (A2 := B) (ht _ fp upd_same) (x.tm.frame (Same.refl F) (fun b z => upd_ne (nB b z)) fun b z => (x.fB b z).1) (fun b z w => nB b w z) (fun b z => .inl z) fun b z => .inr z
  · rw [upd_ne (nA i b q)]
    exact x.fA i b q
  · rcases q with e | q
    · subst e
      exact ⟨fp, by rw [upd_same]; exact fun e => nomatch e⟩
    · rw [upd_ne (nB b q)]
      exact x.fB b q
/-- an empty dict of one's own is filled by what lies on it -/
theorem EnvX.fillD {ks : List Key} {ts1 ts2 : List T} {us ws : List V} {p : Addr} (x : EnvX K P G (ts1 ++ .dk [] [] :: ts2) σ (us ++ .ref p :: ws) H F As B) (hl : ts1.length = us.length) (hk : ks.length = us.length) :
    H p = some (.dK []) ∧ EnvX K P G (.dk ks ts1 :: ts2) σ (.ref p :: ws) (upd H p (.dK (ks.zip us))) F As B := by
  obtain ⟨B1, B2, q1, q2, q3, q4, q5⟩ := trs_split ts1 us B hl x.tm
  cases q2 with
  | cons h1 h2 h3 h4 h5 =>
    rename_i A1 A2
    cases h1 with
    | dk g1 g2 g0 g3 g4 g5 g6 =>
      rename_i us0 A
      have bp : B p := q5 p (h4 p g5)
      have n1 : ∀ b, B1 b → b ≠ p := fun b z e => q3 b z (by rw [e]; exact h4 p g5)
      have n2 : ∀ b, A2 b → b ≠ p := fun b z e => h3 p g5 (by rw [← e]; exact z)
      have nA : ∀ i b, As i b → b ≠ p := fun i b z e => x.dB i b z (by rw [e]; exact bp)
      have nF : ∀ b o, F b = some o → b ≠ p := fun b o z e => by rw [e, g2] at z; cases z
      refine ⟨?_, x.hb, fun b o q => ?_, fun b o q => ?_, x.fmF, x.fmA, x.fmB, fun i t q => ?_, ?_, x.dj, x.dB, fun i b q => ?_, fun b q => ?_, x.pn, x.len⟩
      · rw [g1, List.zip_nil_left]
      · rw [upd_ne (nF b o q)]
        exact x.fh b o q
      · rw [upd_ne fun e => x.fmB b o q (by rw [e]; exact bp)]
        exact x.fm b o q
      · obtain ⟨v, e, h⟩ := x.sl i t q
        exact ⟨v, e, h.frame (Same.refl F) (fun b z => upd_ne (nA i b z)) fun b z => (x.fA i b z).1⟩
      · refine .cons (A1 := fun b => b = p ∨ B1 b) (A2 := A2) (.dk (B := B1) upd_same g2 hk (q1.frame (Same.refl F) (fun b z => upd_ne (n1 b z)) fun b z => (x.fB b (q4 b z)).1) (fun z => n1 p z rfl) (.inl rfl) fun b z => .inr z)
          (h2.frame (Same.refl F) (fun b z => upd_ne (n2 b z)) fun b z => (x.fB b (q5 b (h5 b z))).1) (fun b z w => z.elim (n2 b w) fun z => q3 b z (h5 b w)) (fun b z => z.elim (fun e => by rw [e]; exact bp) (q4 b)) fun b z => q5 b (h5 b z)
      · rw [upd_ne (nA i b q)]
        exact x.fA i b q
      · by_cases e : b = p
        · subst e
          rw [upd_same]
          exact ⟨g2, fun z => nomatch z⟩
        · rw [upd_ne e]
          exact x.fB b q
end
theorem merge_new : ∀ {more kvs : List (Key × V)}, ((kvs ++ more).map (·.1)).Nodup → mergeK kvs more = kvs ++ more
  | [], kvs, _ => by
    rw [List.append_nil]
    rfl
  | p :: more, kvs, h => by
    have e : putK kvs p.1 p.2 = kvs ++ [p] := by
      unfold putK
      rw [if_neg]
      intro z
      obtain ⟨q, hq, e⟩ := List.any_eq_true.mp z
      have e := of_decide_eq_true e
      rw [List.map_append, List.nodup_append] at h
      exact h.2.2 q.1 (List.mem_map_of_mem hq) p.1 (by rw [List.map_cons]; exact List.mem_cons_self ..) e
    show mergeK (putK kvs p.1 p.2) more = _
    rw [e, merge_new (by rw [List.append_assoc]; exact h), List.append_assoc]
    rfl
def dispTA (tvs : List TE) : TA := tvs.foldr tCons tNil
theorem pairs_of {σ : L2.St} : ∀ {ks : List Key} {tvs : List TE} {H : Hp} {Q : List (V × V) → Hp → Prop}, ks.length = tvs.length → tPairs ((ks.zip tvs).map fun q => (tC (kV q.1), q.2)) σ H Q = dispTA tvs σ H (fun us H' => Q ((ks.zip us).map fun q => (kV q.1, q.2)) H')
  | [], [], _, _, _ => rfl
  | [], _ :: _, _, _, e => by cases e
  | _ :: _, [], _, _, e => by cases e
  | k :: ks, tv :: tvs, H, Q, e => by
    show tv σ H (fun y H2 => tPairs ((ks.zip tvs).map fun q => (tC (kV q.1), q.2)) σ H2 fun ps H3 => Q ((kV k, y) :: ps) H3) = tv σ H (fun y H2 => dispTA tvs σ H2 fun us H3 => Q ((kV k, y) :: (ks.zip us).map fun q => (kV q.1, q.2)) H3)
    congr 1
    funext y H2
    exact pairs_of (Nat.succ.inj e)
structure PPD (X : Cx) (pos : Pos) (keys : List (Option Expr)) (values : List Expr) (ks : List Key) (tvs : List TE) (w : WA) : Prop where
  ps : PPs X pos keys values ((ks.zip tvs).map fun q => (tC (kV q.1), q.2))
  rd : RDA X.K (dispTA tvs) w
  len : ks.length = tvs.length
def wDict (ks : List Key) (wa : WA) : WE := fun G k => wa G fun xs G1 => match takesOf G1 xs with
  | some (ys, G2) => ys.length = ks.length ∧ k (.t (.dk ks ys)) G2
  | none => False
section
variable {X : Cx} {pos : Pos}
theorem ppd_nil : PPD X pos [] [] [] [] wNil := ⟨pps_nil, rd_nil, rfl⟩
theorem ppd_cons {x : Str} {j : Nat} {p2 : Pos} {v : Expr} {keys : List (Option Expr)} {values : List Expr} {ks : List Key} {tv : TE} {wv : WE} {tvs : List TE} {w : WA} (hv : PD X v tv wv) (hr : PPD X pos keys values ks tvs w) :
    PPD X pos (some (.Constant (.str x) j p2) :: keys) (v :: values) (.inr x :: ks) (tv :: tvs) (wCons wv w) := ⟨pps_cons pe_str hv.pe hr.ps, rd_cons hv.rd hr.rd, congrArg (· + 1) hr.len⟩
theorem rd_dict {K : PySem.W.Frag} {ks : List Key} {tvs : List TE} {w : WA} (h : RDA K (dispTA tvs) w) (hl : ks.length = tvs.length) (hn : ks.Nodup) (h15 : ks.length ≤ 15) : RD K (tDisp ((ks.zip tvs).map fun q => (tC (kV q.1), q.2))) (wDict ks w) := by
  intro P G ts σ vs H k Q x hw hq p hp
  obtain ⟨F, As, B, x⟩ := x
  rw [pairs_of hl]
  have x0 := x.allocT (o := .dK []) (t0 := .dk [] []) hp fun H' f e => .dk (vs := []) (B := fun _ => False) e f rfl .nil (fun z => z) rfl fun _ z => z.elim
  refine h P G _ σ _ _ _ _ ⟨_, _, _, x0⟩ hw fun xs G1 us H1 x1 ho hk => ?_
  obtain ⟨F, As, B, x1⟩ := x1
  have hk : (match takesOf G1 xs with
  | some (ys, G2) => ys.length = ks.length ∧ k (.t (.dk ks ys)) G2
  | none => False) := hk
  split at hk
  · rename_i ys G2 e
    obtain ⟨F', As', B', x2, s2⟩ := x1.takes ho e
    have hl2 : ys.length = us.length := by rw [takesOf_len e, alOks_len ho]
    obtain ⟨hp2, x3⟩ := x2.fillD (ks := ks) hl2 (by omega)
    refine ⟨hp2, ks.zip us, rfl, by rw [List.length_zip]; omega, ?_⟩
    rw [merge_new, List.nil_append]
    · exact hq (.t (.dk ks ys)) G2 (.ref p) _ ⟨_, _, _, x3⟩ trivial hk.2
    · rw [List.nil_append, List.map_fst_zip (by omega)]
      exact hn
  · exact hk.elim
theorem pd_dict {keys : List (Option Expr)} {values : List Expr} {ks : List Key} {tvs : List TE} {w : WA} (h : PPD X pos keys values ks tvs w) (hall : keys.all (·.isSome) = true := by rfl) (hl : keys.length = values.length := by rfl) (h0 : keys ≠ [] := by exact fun e => nomatch e)
    (h15 : keys.length ≤ 15 := by decide) (hn : ks.Nodup := by decide +kernel) (h15' : ks.length ≤ 15 := by decide) : PD X (.Dict keys values pos) (tDisp ((ks.zip tvs).map fun q => (tC (kV q.1), q.2))) (wDict ks w) := ⟨pe_disp h.ps hall hl h0 h15, rd_dict h.rd h.len hn h15'⟩
end
end DL
end
section
set_option autoImplicit false
/-! DL14: comprehensions whose parts are told by their readings alone. -/
namespace DL
open PySem PySem.Spec PyProof.Rows L2

def tcan (K : PySem.W.Frag) (w : WE) : TE := fun σ H Q => ∃ (P : Par) (G : Gm) (ts : List T) (vs : List V) (k : Tm → Gm → Prop), Env K P G ts σ vs H ∧ w G k ∧
  ∀ x G' v H', Env K P G' (pushT x ts) σ (pushV x v vs) H' → AlOk σ x v → k x G' → Q v H'
def ttcan (K : PySem.W.Frag) (w : WT) : TT := fun σ H Q => ∃ (P : Par) (G : Gm) (ts : List T) (vs : List V) (k : Bool → Gm → Prop), Env K P G ts σ vs H ∧ w G k ∧
  ∀ x G' H', Env K P G' ts σ vs H' → k x G' → Q x H'
def gcan (K : PySem.W.Frag) (own : List Nat) (w : WG) : TG := fun v σ H Q => ∃ (P : Par) (G : Gm) (ts : List T) (vs : List V) (x : PyData) (k : Gm → Prop), Env K P G (.d x :: ts) σ (v :: vs) H ∧ w x G k ∧
  ∀ G' σ' H', Env K P G' ts σ' vs H' → σ'.length = σ.length → (∀ j, j ∉ own → σ'[j]? = σ[j]?) → k G' → Q σ' H'
section
variable {X : Cx} {e : Expr}
theorem PD.can {t : TE} {w : WE} (h : PD X e t w) : PD X e (tcan X.K w) w :=
  ⟨⟨fun pins s σ H Q I ⟨P, G, ts, vs, k, x, hw, hq⟩ => h.pe.run pins s σ H Q I (h.rd P G ts σ vs H k Q x hw hq)⟩, fun P G ts σ vs H k Q x hw hq => ⟨P, G, ts, vs, k, x, hw, hq⟩⟩
theorem PTsD.can {es : List Expr} {t : TT} {w : WT} (h : PTsD X es t w) : PTsD X es (ttcan X.K w) w :=
  ⟨⟨fun pins s σ H Q I ⟨P, G, ts, vs, k, x, hw, hq⟩ => h.pe.run pins s σ H Q I (h.rd P G ts σ vs H k Q x hw hq)⟩, fun P G ts σ vs H k Q x hw hq => ⟨P, G, ts, vs, k, x, hw, hq⟩⟩
theorem PGD.can {g : TG} {own : List Nat} {w : WG} (h : PGD X e g own w) : PGD X e (gcan X.K own w) own w :=
  ⟨⟨fun pins s σ H v u Q I r ⟨P, G, ts, vs, x, k, y, hw, hq⟩ => h.pg.run pins s σ H v u Q I r (h.rd P G ts σ vs H x v k Q y hw hq)⟩, fun P G ts σ vs H x v k Q y hw hq => ⟨P, G, ts, vs, x, k, y, hw, hq⟩⟩
theorem pd_lcE {elt tg iter : Expr} {ifs : List Expr} {scope : Scope} {own : List (Str × Nat)} {own1 : List Nat} {pos : Pos} {wi : TI} {wI : WI} {wg : WG} {wt : WT} {we : WE} (hc : X.calm = true) (hN : X.N.Nodup) (hi : PID X tg iter wi wI) (ok : BlkOk X.N X.env.scope scope own)
    (hg : ∀ (s : Shared) (H : Hp) (C : Addr) (cl : List (Str × Addr)) (fp : List Addr), ∃ g, PGD (X.blk s H scope (compEnvC scope cl C X.env) fp) tg g own1 wg) (ho : own1.all (fun j => (own.map (·.2)).contains j) = true)
    (ht : ∀ (s : Shared) (H : Hp) (C : Addr) (cl : List (Str × Addr)) (fp : List Addr), ∃ tt, PTsD (X.blk s H scope (compEnvC scope cl C X.env) fp) ifs tt wt)
    (he : ∀ (s : Shared) (H : Hp) (C : Addr) (cl : List (Str × Addr)) (fp : List Addr), ∃ te, PD (X.blk s H scope (compEnvC scope cl C X.env) fp) elt te we) (hs : ∀ x, foldedSetIterable iter X.env x = pure x := by intro _; rfl) :
    PD X (.ListComp elt [⟨tg, iter, ifs, 0⟩] scope pos) (tLc wi (gcan X.K own1 wg) (ttcan X.K wt) (tcan X.K we) (own.map (·.2))) (wLc wI wg wt we (own.map (·.2))) :=
  pd_lc hc hN hi ok (fun s H C cl fp => by obtain ⟨_, h⟩ := hg s H C cl fp; exact h.can) ho (fun s H C cl fp => by obtain ⟨_, h⟩ := ht s H C cl fp; exact h.can) (fun s H C cl fp => by obtain ⟨_, h⟩ := he s H C cl fp; exact h.can) hs
theorem psd_setLcE {i : Nat} {y : Str} {py : Pos} {elt tg iter : Expr} {ifs : List Expr} {scope : Scope} {own : List (Str × Nat)} {own1 : List Nat} {spos pos : Pos} {wi : TI} {wI : WI} {wg : WG} {wt' : WT} {we' : WE} (hc : X.calm = true) (hN : X.N.Nodup) (hy : X.N[i]? = some y) (hyl : X.env.scope.names.lookup y = some .local)
    (hsw : swapsWith (.ListComp elt [⟨tg, iter, ifs, 0⟩] scope pos) (some (.Name y py)) spos.line X.env = pure true) (hi : PID X tg iter wi wI) (ok : BlkOk X.N X.env.scope scope own)
    (hg : ∀ (s : Shared) (H : Hp) (C : Addr) (cl : List (Str × Addr)) (fp : List Addr), ∃ g, PGD (X.blk s H scope (compEnvC scope cl C X.env) fp) tg g own1 wg) (ho : own1.all (fun j => (own.map (·.2)).contains j) = true)
    (ht : ∀ (s : Shared) (H : Hp) (C : Addr) (cl : List (Str × Addr)) (fp : List Addr), ∃ tt, PTsD (X.blk s H scope (compEnvC scope cl C X.env) fp) ifs tt wt')
    (he : ∀ (s : Shared) (H : Hp) (C : Addr) (cl : List (Str × Addr)) (fp : List Addr), ∃ te, PD (X.blk s H scope (compEnvC scope cl C X.env) fp) elt te we') (hs : ∀ x, foldedSetIterable iter X.env x = pure x := by intro _; rfl) :
    PSD X (.Assign [.Name y py] (.ListComp elt [⟨tg, iter, ifs, 0⟩] scope pos) spos) (tAsg (tLc wi (gcan X.K own1 wg) (ttcan X.K wt') (tcan X.K we') (own.map (·.2))) (gName i)) (wSet i (wLc wI wg wt' we' (own.map (·.2)))) :=
  psd_setLc hc hN hy hyl hsw hi ok (fun s H C cl fp => by obtain ⟨_, h⟩ := hg s H C cl fp; exact h.can) ho (fun s H C cl fp => by obtain ⟨_, h⟩ := ht s H C cl fp; exact h.can) (fun s H C cl fp => by obtain ⟨_, h⟩ := he s H C cl fp; exact h.can) hs
theorem d_call {es : List Expr} {ta : TA} {wa : WA} {p pos : Pos} {k n : Nat} {x : Str} {S : FS} (D : Def X.prog X.w X.K X.mg X.base k x n S) (hr : Room k X.A) (ha : PAD X (e :: es) ta wa) (hg : Gl X x := by rfl) (hdb : (x == ("__debug__" : Str)) = false := by decide) (he : starEach (e :: es) X.env = (false, eval e X.env) :: starEach es X.env := by rfl) (hpl : (backTo pos (starEach es X.env)).any (·.1) = false := by rfl) :
    PD X (.Call (.Name x p) (e :: es) [] pos) (tCall (spF X.K S) [] (fun _ _ _ => False) ta) (wCall S wa) := pd_call D hr hg ha hdb he hpl
end
end DL
end
section
set_option autoImplicit false
/-! DL15: lists and tuples of ints in the readings. -/
namespace DL
open PySem PySem.Spec PyProof.Rows L2

def iD (xs : List Int) : List PyData := xs.map PyData.int
def iE (xs : List Int) : List T := (iD xs).map T.d
def dL (xs : List Int) : PyData := .list (iD xs)
def dT (xs : List Int) : PyData := .tuple (iD xs)
def iL (xs : List Int) : T := .lst (iE xs)
section
variable {xs ys : List Int} {G : Gm} {i : Nat}
theorem iD_len : (iD xs).length = xs.length := List.length_map ..
theorem iE_len : (iE xs).length = xs.length := (List.length_map ..).trans iD_len
theorem iD_get {j : Nat} {v : Int} (h : xs[j]? = some v) : (iD xs)[j]? = some (.int v) := by
  unfold iD
  rw [List.getElem?_map, h]
  rfl
theorem iE_get {j : Nat} {v : Int} (h : xs[j]? = some v) : (iE xs)[j]? = some (.d (.int v)) := by
  unfold iE
  rw [List.getElem?_map, iD_get h]
  rfl
theorem iD_nil : ([] : List PyData) = iD [] := rfl
theorem iE_app (v : Int) : iE xs ++ [.d (.int v)] = iE (xs ++ [v]) := by
  unfold iE iD
  simp only [List.map_append, List.map_cons, List.map_nil]
theorem iE_set {j : Nat} (v : Int) : (iE xs).set j (.d (.int v)) = iE (xs.set j v) := by
  unfold iE iD
  rw [List.map_set, List.map_set]
theorem iE_drop : (iE xs).dropLast = iE xs.dropLast := by
  unfold iE iD
  rw [List.map_dropLast, List.map_dropLast]
theorem iE_erase {j : Nat} : (iE xs).eraseIdx j = iE (xs.eraseIdx j) := by
  unfold iE iD
  induction xs generalizing j with
  | nil => rfl
  | cons x xs ih =>
    cases j with
    | zero => rfl
    | succ j => simp only [List.map_cons, List.eraseIdx_cons_succ, ih]
theorem lst_iE : T.lst (iE xs) = iL xs := rfl
theorem lst_nil : T.lst [] = iL [] := rfl
theorem lst_one (v : Int) : T.lst [.d (.int v)] = iL [v] := rfl
theorem lst_iD : T.lst ((iD xs).map T.d) = iL xs := rfl
theorem toD_iL : (iL xs).toD = some (dL xs) := T.toD_lst _
theorem flat_iL : (iL xs).flat = some (dL xs) := by
  unfold iL iE
  rw [T.flat, dsOf_map]
  rfl
theorem core_iL : (iL xs).core = .lst (iE xs) := rfl
theorem re_iL {y : T} : (iL xs).re y = y := rfl
theorem varK_iL {k : Tm → Prop} : varK i k (some (some (iL xs))) = k (.al i) := rfl
theorem varK_d {d : PyData} {k : Tm → Prop} : varK i k (some (some (.d d))) = k (.t (.d d)) := rfl
theorem take_iL (h : G[i]? = some (some (iL xs))) : takeOf G (.al i) = some (.d (dL xs), G.set i (some (.d (dL xs)))) := by
  unfold takeOf
  simp only [h]
  show (match (iL xs).toD with
      | some d => some (T.d d, G.set i (some (.d d)))
      | none => none) = _
  rw [toD_iL]
theorem items_dL : itemsD (dL xs) = some (iD xs) := rfl
theorem items_dT : itemsD (dT xs) = some (iD xs) := rfl
theorem ints_iD : intsD (iD xs) = some xs := by
  unfold iD
  induction xs with
  | nil => rfl
  | cons x xs ih => rw [List.map_cons, intsD, ih]
variable {k : T → Prop}
theorem fSum_dL : fSum (dL xs) k = k (.d (.int xs.sum)) := by
  unfold fSum dL
  simp only [ints_iD]
theorem fCat_dL : fCat (dL xs) (dL ys) k = (xs.length + ys.length ≤ sizeLine ∧ k (iL (xs ++ ys))) := by
  show ((iD xs).length + (iD ys).length ≤ sizeLine ∧ k (.lst ((iD xs ++ iD ys).map T.d))) = _
  rw [iD_len, iD_len]
  unfold iD iL iE iD
  rw [List.map_append, List.map_append, List.map_append]
theorem fRep_dL {n : Int} : fRep (dL xs) (.int n) k = (-(2 ^ 63) ≤ n ∧ n < 2 ^ 63 ∧ xs.length * n.toNat ≤ sizeLine ∧ k (iL (List.replicate n.toNat xs).flatten)) := by
  show (-(2 ^ 63) ≤ n ∧ n < 2 ^ 63 ∧ (iD xs).length * n.toNat ≤ sizeLine ∧ k (.lst ((List.replicate n.toNat (iD xs)).flatten.map T.d))) = _
  rw [iD_len]
  unfold iD iL iE iD
  simp only [List.map_flatten, List.map_replicate]
theorem fRep_int {a b : Int} : fRep (.int a) (.int b) k = (IntMulOk a b ∧ k (.d (.int (a * b)))) := rfl
theorem fCat_int {a b : Int} : fCat (.int a) (.int b) k = k (.d (.int (a + b))) := rfl
theorem fSub_int {a b : Int} : fSub (.int a) (.int b) k = k (.d (.int (a - b))) := rfl
theorem fMod_int {a b : Int} : fMod (.int a) (.int b) k = (b ≠ 0 ∧ k (.d (.int (a.fmod b)))) := rfl
theorem fDiv_int {a b : Int} : fDiv (.int a) (.int b) k = (b ≠ 0 ∧ k (.d (.int (a.fdiv b)))) := rfl
theorem fLt_int {a b : Int} : fLt (.int a) (.int b) k = k (.d (.bool (decide (a < b)))) := rfl
theorem fLe_int {a b : Int} : fLe (.int a) (.int b) k = k (.d (.bool (decide (a ≤ b)))) := rfl
theorem fGt_int {a b : Int} : fGt (.int a) (.int b) k = k (.d (.bool (decide (b < a)))) := rfl
theorem fGe_int {a b : Int} : fGe (.int a) (.int b) k = k (.d (.bool (decide (b ≤ a)))) := rfl
theorem fNeg_int {a : Int} : fNeg (.int a) k = k (.d (.int (-a))) := rfl
theorem fAbs_int {a : Int} : fAbs (.int a) k = k (.d (.int (a.natAbs : Int))) := by
  show k (.d (.int (if a < 0 then -a else a))) = _
  congr 3
  split <;> omega
theorem fMax2_int {a b : Int} : fMax2 (.int a) (.int b) k = k (.d (.int (max a b))) := by
  show k (.d (.int (if b > a then b else a))) = _
  congr 3
  omega
theorem fMin2_int {a b : Int} : fMin2 (.int a) (.int b) k = k (.d (.int (min a b))) := by
  show k (.d (.int (if b < a then b else a))) = _
  congr 3
  omega
theorem fInt_int {a : Int} : fInt (.int a) k = k (.d (.int a)) := rfl
theorem fInt_bool {a : Bool} : fInt (.bool a) k = k (.d (.int (if a then 1 else 0))) := rfl
theorem cut_map {α β : Type} (f : α → β) (l : List α) (lo hi : Option Int) : cutL (l.map f) lo hi = (cutL l lo hi).map f := by
  unfold cutL
  rw [List.length_map, List.map_take, List.map_drop]
theorem fSl_dL {lo hi : Option Int} : fSl lo hi (dL xs) k = k (iL (cutL xs lo hi)) := by
  show k (.lst ((cutL (iD xs) lo hi).map T.d)) = _
  unfold iD iL iE iD
  rw [cut_map]
theorem fSl_dT {lo hi : Option Int} : fSl lo hi (dT xs) k = k (.d (dT (cutL xs lo hi))) := by
  show k (.d (.tuple (cutL (iD xs) lo hi))) = _
  unfold dT iD
  rw [cut_map]
theorem fSl3_dL : fSl3 none none (-1) (dL xs) k = (xs.length ≤ sizeLine ∧ k (iL xs.reverse)) := by
  show ((-1 : Int) ≠ 0 ∧ (pickL (iD xs) none none (-1)).length ≤ sizeLine ∧ k (.lst ((pickL (iD xs) none none (-1)).map T.d))) = _
  rw [pickL_back, List.length_reverse, iD_len]
  unfold iD iL iE iD
  rw [List.map_reverse]
  simp
theorem fSl3_dT : fSl3 none none (-1) (dT xs) k = k (.d (dT xs.reverse)) := by
  show ((none : Option Int) = none ∧ (none : Option Int) = none ∧ (-1 : Int) = -1 ∧ k (.d (.tuple (iD xs).reverse))) = _
  unfold dT iD
  rw [List.map_reverse]
  simp
theorem fTuple_dL : fTuple (dL xs) k = k (.d (dT xs)) := rfl
theorem fTuple_dT : fTuple (dT xs) k = k (.d (dT xs)) := rfl
theorem fList_dL : fList (dL xs) k = k (iL xs) := rfl
theorem fList_dT : fList (dT xs) k = k (iL xs) := rfl
theorem fLen_dL : fLen (dL xs) k = k (.d (.int xs.length)) := by
  show k (.d (.int (iD xs).length)) = _
  rw [iD_len]
theorem fLen_dT : fLen (dT xs) k = k (.d (.int xs.length)) := by
  show k (.d (.int (iD xs).length)) = _
  rw [iD_len]
end

/-! ### data of ints alone: == -/
mutual
/-- ints, lists and tuples of such -/
def plainD : PyData → Bool
  | .int _ => true
  | .list xs => plainDs xs
  | .tuple xs => plainDs xs
  | _ => false
def plainDs : List PyData → Bool
  | [] => true
  | x :: xs => plainD x && plainDs xs
end
mutual
theorem eqv_plain : ∀ {a b : PyData}, plainD a = true → plainD b = true → (PyData.eqv a b = true ↔ a = b)
  | .int i, .int j, _, _ => by simp [PyData.eqv]
  | .list xs, .list ys, h, h' => by
    rw [PyData.eqv, PyData.list.injEq]
    exact eqvs_plain (by rw [plainD] at h; exact h) (by rw [plainD] at h'; exact h')
  | .tuple xs, .tuple ys, h, h' => by
    rw [PyData.eqv, PyData.tuple.injEq]
    exact eqvs_plain (by rw [plainD] at h; exact h) (by rw [plainD] at h'; exact h')
  | .int _, .list _, _, _ => by simp [PyData.eqv]
  | .int _, .tuple _, _, _ => by simp [PyData.eqv]
  | .list _, .int _, _, _ => by simp [PyData.eqv]
  | .list _, .tuple _, _, _ => by simp [PyData.eqv]
  | .tuple _, .int _, _, _ => by simp [PyData.eqv]
  | .tuple _, .list _, _, _ => by simp [PyData.eqv]
theorem eqvs_plain : ∀ {a b : List PyData}, plainDs a = true → plainDs b = true → (PyData.eqvAll a b = true ↔ a = b)
  | [], [], _, _ => by simp [PyData.eqvAll]
  | [], _ :: _, _, _ => by simp [PyData.eqvAll]
  | _ :: _, [], _, _ => by simp [PyData.eqvAll]
  | x :: xs, y :: ys, h, h' => by
    rw [plainDs, Bool.and_eq_true] at h h'
    rw [PyData.eqvAll, Bool.and_eq_true, List.cons.injEq, eqv_plain h.1 h'.1, eqvs_plain h.2 h'.2]
end
/-- may be compared -/
def okD (d : PyData) : Bool := plainD d && SeqAt.shaped d
section
variable {k : T → Prop} {a b : PyData}
theorem fEq_ok (ha : okD a = true) (hb : okD b = true) : fEq a b k = k (.d (.bool (PyData.eqv a b))) := by
  unfold okD at ha hb
  rw [Bool.and_eq_true] at ha hb
  unfold fEq
  split
  · cases ha.1
  · rw [ha.2, hb.2]
    simp
theorem fNe_ok (ha : okD a = true) (hb : okD b = true) : fNe a b k = k (.d (.bool (!PyData.eqv a b))) := by
  unfold okD at ha hb
  rw [Bool.and_eq_true] at ha hb
  unfold fNe
  split
  · cases ha.1
  · rw [ha.2, hb.2]
    simp
theorem eqv_ok (ha : okD a = true) (hb : okD b = true) : PyData.eqv a b = true ↔ a = b := by
  unfold okD at ha hb
  rw [Bool.and_eq_true] at ha hb
  exact eqv_plain ha.1 hb.1
end
theorem plain_iD : ∀ xs : List Int, plainDs (iD xs) = true
  | [] => rfl
  | x :: xs => by
    show plainDs (.int x :: iD xs) = true
    rw [plainDs, plain_iD xs]
    rfl
theorem shaped_iD : ∀ xs : List Int, PyData.canLayAll0 (iD xs) = true ∧ PyData.depthAll (iD xs) = 0
  | [] => ⟨rfl, rfl⟩
  | x :: xs => by
    show PyData.canLayAll0 (.int x :: iD xs) = true ∧ PyData.depthAll (.int x :: iD xs) = 0
    rw [PyData.canLayAll0, PyData.depthAll, (shaped_iD xs).1, (shaped_iD xs).2]
    exact ⟨rfl, rfl⟩
theorem ok_int (i : Int) : okD (.int i) = true := rfl
theorem ok_dL (xs : List Int) : okD (dL xs) = true := by
  unfold okD dL SeqAt.shaped
  rw [plainD, plain_iD, PyData.canLay0, PyData.depth, (shaped_iD xs).1, (shaped_iD xs).2]
  rfl
theorem ok_dT (xs : List Int) : okD (dT xs) = true := by
  unfold okD dT SeqAt.shaped
  rw [plainD, plain_iD, PyData.canLay0, PyData.depth, (shaped_iD xs).1, (shaped_iD xs).2]
  rfl
theorem iD_inj {xs ys : List Int} (h : iD xs = iD ys) : xs = ys := (List.map_inj_right fun _ _ e => PyData.int.inj e).mp h
section
variable {k : T → Prop} {xs ys : List Int} {a b : Int}
theorem eqv_dec {p : Prop} [Decidable p] {x y : PyData} (ha : okD x = true) (hb : okD y = true) (h : x = y ↔ p) : PyData.eqv x y = decide p := by
  have := eqv_ok ha hb
  by_cases e : x = y
  · rw [this.mpr e, decide_eq_true (h.mp e)]
  · rw [decide_eq_false fun z => e (h.mpr z)]
    exact Bool.eq_false_iff.mpr fun z => e (this.mp z)
theorem fEq_int : fEq (.int a) (.int b) k = k (.d (.bool (decide (a = b)))) := by
  rw [fEq_ok (ok_int a) (ok_int b), eqv_dec (ok_int a) (ok_int b) ⟨fun e => PyData.int.inj e, fun e => by rw [e]⟩]
theorem fNe_int : fNe (.int a) (.int b) k = k (.d (.bool (!decide (a = b)))) := by
  rw [fNe_ok (ok_int a) (ok_int b), eqv_dec (ok_int a) (ok_int b) ⟨fun e => PyData.int.inj e, fun e => by rw [e]⟩]
theorem fEq_dL : fEq (dL xs) (dL ys) k = k (.d (.bool (decide (xs = ys)))) := by
  rw [fEq_ok (ok_dL xs) (ok_dL ys), eqv_dec (ok_dL xs) (ok_dL ys) ⟨fun e => iD_inj (PyData.list.inj e), fun e => by rw [e]⟩]
theorem fNe_dL : fNe (dL xs) (dL ys) k = k (.d (.bool (!decide (xs = ys)))) := by
  rw [fNe_ok (ok_dL xs) (ok_dL ys), eqv_dec (ok_dL xs) (ok_dL ys) ⟨fun e => iD_inj (PyData.list.inj e), fun e => by rw [e]⟩]
theorem fEq_dT : fEq (dT xs) (dT ys) k = k (.d (.bool (decide (xs = ys)))) := by
  rw [fEq_ok (ok_dT xs) (ok_dT ys), eqv_dec (ok_dT xs) (ok_dT ys) ⟨fun e => iD_inj (PyData.tuple.inj e), fun e => by rw [e]⟩]
theorem fNe_dT : fNe (dT xs) (dT ys) k = k (.d (.bool (!decide (xs = ys)))) := by
  rw [fNe_ok (ok_dT xs) (ok_dT ys), eqv_dec (ok_dT xs) (ok_dT ys) ⟨fun e => iD_inj (PyData.tuple.inj e), fun e => by rw [e]⟩]
end
theorem nil_dT : PyData.tuple [] = dT [] := rfl
theorem nil_dL : PyData.list [] = dL [] := rfl

/-! ### loops -/
/-- a comprehension whose element changes nothing -/
theorem lcW_all {g : WG} {tt : WT} {te : WE} {own : List Nat} {G : Gm} {k : List T → Gm → Prop} (f : PyData → T) : ∀ (items : List PyData) (acc : List T),
    (∀ x ∈ items, ∀ (R : T → Gm → Prop) (R2 : Gm → Prop), R (f x) G → g x G fun G2 => tt G2 fun b G3 => if b = true then te G3 fun y G4 => match takeOf G4 y with
      | some (ty, G5) => R ty (wipeG G5 own)
      | none => False else R2 (wipeG G3 own)) → k (acc ++ items.map f) G → lcW g tt te own items acc G k
  | [], acc, _, hk => by rw [List.map_nil, List.append_nil] at hk; exact hk
  | x :: xs, acc, h, hk => by
    rw [lcW]
    refine h x List.mem_cons_self (fun ty G' => lcW g tt te own xs (acc ++ [ty]) G' k) (fun G' => lcW g tt te own xs acc G' k) ?_
    exact lcW_all f xs (acc ++ [f x]) (fun y hy => h y (List.mem_cons_of_mem _ hy)) (by rw [List.append_assoc]; exact hk)
/-- a comprehension whose element changes the state: by an invariant over what was walked -/
theorem lcW_inv {g : WG} {tt : WT} {te : WE} {own : List Nat} {k : List T → Gm → Prop} (I : Nat → List T → Gm → Prop) : ∀ (items : List PyData) (n : Nat) (acc : List T) (G : Gm), I n acc G →
    (∀ i x acc G, items[i]? = some x → I (n + i) acc G → ∀ (R : List T → Gm → Prop), (∀ acc' G', I (n + i + 1) acc' G' → R acc' G') → g x G fun G2 => tt G2 fun b G3 => if b = true then te G3 fun y G4 => match takeOf G4 y with
      | some (ty, G5) => R (acc ++ [ty]) (wipeG G5 own)
      | none => False else R acc (wipeG G3 own)) → (∀ acc G, I (n + items.length) acc G → k acc G) → lcW g tt te own items acc G k
  | [], n, acc, G, h0, _, hk => hk acc G h0
  | x :: xs, n, acc, G, h0, h, hk => by
    rw [lcW]
    refine h 0 x acc G rfl h0 (fun acc' G' => lcW g tt te own xs acc' G' k) fun acc' G' h1 => ?_
    exact lcW_inv I xs (n + 1) acc' G' h1 (fun i y acc G hi hI R hR => h (i + 1) y acc G (by simpa using hi) (by rw [show n + (i + 1) = n + 1 + i by omega]; exact hI) R (by rw [show n + (i + 1) + 1 = n + 1 + i + 1 by omega]; exact hR))
      fun acc G hI => hk acc G (by rw [List.length_cons, show n + (xs.length + 1) = n + 1 + xs.length by omega]; exact hI)
/-- a loop that is never left ahead of its end -/
theorem forW_inv {g : WG} {b : WS} {D : DEnds} (I : Nat → Gm → Prop) : ∀ (items : List PyData) (n : Nat) (G : Gm), I n G →
    (∀ i x G, items[i]? = some x → I (n + i) G → ∀ (R : Gm → Prop), (∀ G', I (n + i + 1) G' → R G') → g x G fun G1 => b { nx := R, rt := D.rt, bk := D.nx, ct := R } G1) → (∀ G, I (n + items.length) G → D.nx G) → forW g b items D G
  | [], n, G, h0, _, hk => hk G h0
  | x :: xs, n, G, h0, h, hk => by
    rw [forW]
    refine h 0 x G rfl h0 (forW g b xs D) fun G' h1 => ?_
    exact forW_inv I xs (n + 1) G' h1 (fun i y G hi hI R hR => h (i + 1) y G (by simpa using hi) (by rw [show n + (i + 1) = n + 1 + i by omega]; exact hI) R (by rw [show n + (i + 1) + 1 = n + 1 + i + 1 by omega]; exact hR))
      fun G hI => hk G (by rw [List.length_cons, show n + (xs.length + 1) = n + 1 + xs.length by omega]; exact hI)

/-! ### for simp -/
def takeO (G : Gm) (i : Nat) : Option (Option T) → Option (T × Gm)
  | some (some (.ro ns)) => some (.ro ns, G)
  | some (some t) => match t.toD with
    | some d => some (.d d, G.set i (some (.d d)))
    | none => none
  | _ => none
theorem take_al {G : Gm} {i : Nat} : takeOf G (.al i) = takeO G i G[i]? := rfl
theorem take_t {G : Gm} {y : T} : takeOf G (.t y) = some (y, G) := rfl
theorem takeO_iL {G : Gm} {i : Nat} {xs : List Int} : takeO G i (some (some (iL xs))) = some (.d (dL xs), G.set i (some (.d (dL xs)))) := by
  show (match (iL xs).toD with
    | some d => some (T.d d, G.set i (some (.d d)))
    | none => none) = _
  rw [toD_iL]
theorem toD_d {d : PyData} : (T.d d).toD = some d := by rw [T.toD]
theorem flat_d {d : PyData} : (T.d d).flat = some d := rfl
theorem core_d {d : PyData} : (T.d d).core = .d d := rfl
theorem re_d {d : PyData} {y : T} : (T.d d).re y = y := rfl
def putO (i : Nat) (j : Nat) (G : Gm) (k : Gm → Prop) : Option (Option T) → Prop
  | some (some (.ro ns)) => i < G.length ∧ k (G.set i (some (.ro ns)))
  | some (some t) => i < G.length ∧ k ((G.set j none).set i (some t))
  | _ => False
theorem put_al {i j : Nat} {G : Gm} {k : Gm → Prop} : putT i (.al j) G k = putO i j G k G[j]? := rfl
theorem put_t {i : Nat} {y : T} {G : Gm} {k : Gm → Prop} : putT i (.t y) G k = (i < G.length ∧ k (G.set i (some y))) := rfl
theorem putO_iL {i j : Nat} {G : Gm} {k : Gm → Prop} {xs : List Int} : putO i j G k (some (some (iL xs))) = (i < G.length ∧ k ((G.set j none).set i (some (iL xs)))) := rfl
def sqO (i : Nat) (G : Gm) (k : List PyData → Gm → Prop) : Option (Option T) → Prop
  | some (some (.ro ns)) => k (ns.map PyData.int) G
  | some (some t) => match t.toD with
    | some d => match itemsD d with
      | some ds => k ds (G.set i (some (.d d)))
      | none => False
    | none => False
  | _ => False
def sqK (x : Tm) (G : Gm) (k : List PyData → Gm → Prop) : Prop := match x with
  | .t y => match y.toD with
    | some d => match itemsD d with
      | some ds => k ds G
      | none => False
    | none => False
  | .al i => sqO i G k G[i]?
theorem sqK_t {y : T} {G : Gm} {k : List PyData → Gm → Prop} : sqK (.t y) G k = match y.toD with
    | some d => match itemsD d with
      | some ds => k ds G
      | none => False
    | none => False := rfl
theorem sqK_al {i : Nat} {G : Gm} {k : List PyData → Gm → Prop} : sqK (.al i) G k = sqO i G k G[i]? := rfl
theorem sqO_iL {i : Nat} {G : Gm} {k : List PyData → Gm → Prop} {xs : List Int} : sqO i G k (some (some (iL xs))) = k (iD xs) (G.set i (some (.d (dL xs)))) := by
  show (match (iL xs).toD with
    | some d => match itemsD d with
      | some ds => k ds (G.set i (some (.d d)))
      | none => False
    | none => False) = _
  rw [toD_iL]
  rfl
theorem wSq_eq {w : WE} {G : Gm} {k : List PyData → Gm → Prop} : wSq w G k = w G fun x G1 => sqK x G1 k := by
  unfold wSq
  congr 1
  funext x G1
  cases x with
  | t y =>
    show (match (match y.toD with
      | some d => some (d, G1)
      | none => none) with
      | some (d, G2) => match itemsD d with
        | some ds => k ds G2
        | none => False
      | none => False) = _
    rw [sqK_t]
    cases y.toD <;> rfl
  | al i =>
    rw [sqK_al]
    show (match G1[i]? with
    | some (some (.ro ns)) => k (ns.map PyData.int) G1
    | _ => match (match G1[i]? with
      | some (some t) => match t.toD with
        | some d => some (d, G1.set i (some (.d d)))
        | none => none
      | _ => none) with
      | some (d, G2) => match itemsD d with
        | some ds => k ds G2
        | none => False
      | none => False) = _
    generalize G1[i]? = o
    match o with
    | none => rfl
    | some none => rfl
    | some (some (.ro ns)) => rfl
    | some (some (.d d)) =>
      show (match (match (T.d d).toD with
        | some d => some (d, G1.set i (some (.d d)))
        | none => none) with
        | some (d, G2) => match itemsD d with
          | some ds => k ds G2
          | none => False
        | none => False) = (match (T.d d).toD with
    | some d => match itemsD d with
      | some ds => k ds (G1.set i (some (.d d)))
      | none => False
    | none => False)
      cases (T.d d).toD <;> rfl
    | some (some (.at a t)) =>
      show (match (match (T.at a t).toD with
        | some d => some (d, G1.set i (some (.d d)))
        | none => none) with
        | some (d, G2) => match itemsD d with
          | some ds => k ds G2
          | none => False
        | none => False) = (match (T.at a t).toD with
    | some d => match itemsD d with
      | some ds => k ds (G1.set i (some (.d d)))
      | none => False
    | none => False)
      cases (T.at a t).toD <;> rfl
    | some (some (.lst t)) =>
      show (match (match (T.lst t).toD with
        | some d => some (d, G1.set i (some (.d d)))
        | none => none) with
        | some (d, G2) => match itemsD d with
          | some ds => k ds G2
          | none => False
        | none => False) = (match (T.lst t).toD with
    | some d => match itemsD d with
      | some ds => k ds (G1.set i (some (.d d)))
      | none => False
    | none => False)
      cases (T.lst t).toD <;> rfl
    | some (some (.obj a b t)) =>
      show (match (match (T.obj a b t).toD with
        | some d => some (d, G1.set i (some (.d d)))
        | none => none) with
        | some (d, G2) => match itemsD d with
          | some ds => k ds G2
          | none => False
        | none => False) = (match (T.obj a b t).toD with
    | some d => match itemsD d with
      | some ds => k ds (G1.set i (some (.d d)))
      | none => False
    | none => False)
      cases (T.obj a b t).toD <;> rfl
    | some (some (.dk b t)) =>
      show (match (match (T.dk b t).toD with
        | some d => some (d, G1.set i (some (.d d)))
        | none => none) with
        | some (d, G2) => match itemsD d with
          | some ds => k ds G2
          | none => False
        | none => False) = (match (T.dk b t).toD with
    | some d => match itemsD d with
      | some ds => k ds (G1.set i (some (.d d)))
      | none => False
    | none => False)
      cases (T.dk b t).toD <;> rfl
/-- reads by a place -/
def qIxO (s : Nat) (p : List Stp) (i : Int) : Option (List T) → Option Qv
  | some ts => match ixN ts.length i with
    | some j => match ts[j]? with
      | some u => some (qOf s p (.ix j) u)
      | none => none
    | none => none
  | none => none
def qIxK (G : Gm) : Option Qv → Option Qv → Option Qv
  | some (.pl s p), some (.dat (.int i)) => qIxO s p i (lstAt G s p)
  | some (.dat a), some (.dat (.int i)) => match itemsD a with
    | some ds => match atI ds i with
      | some d => some (.dat d)
      | none => none
    | none => none
  | _, _ => none
theorem qIx_eq {fa fb : WQ} {G : Gm} : qIx fa fb G = qIxK G (fa G) (fb G) := by
  unfold qIx
  generalize fa G = a
  generalize fb G = b
  unfold qIxK
  split
  · split <;> rfl
  · rename_i h
    split
    · rename_i i
      exact absurd rfl (h i)
    · rename_i i
      exact absurd rfl (h i)
    · rfl
theorem qIxO_iE {s : Nat} {p : List Stp} {i : Int} {j : Nat} {v : Int} {xs : List Int} (h : ixN xs.length i = some j) (h2 : xs[j]? = some v) : qIxO s p i (some (iE xs)) = some (.dat (.int v)) := by
  unfold qIxO
  simp only [iE_len, h, iE_get h2]
  rfl
theorem atI_iD {i : Int} {j : Nat} {v : Int} {xs : List Int} (h : ixN xs.length i = some j) (h2 : xs[j]? = some v) : atI (iD xs) i = some (.int v) := by
  unfold atI
  rw [iD_len, h]
  exact iD_get h2
theorem lstAt_iL {G : Gm} {s : Nat} {xs : List Int} (h : G[s]? = some (some (iL xs))) : lstAt G s [] = some (iE xs) := by
  unfold lstAt placeOf
  rw [h]
  rfl
theorem ixN_nat {n j : Nat} (h : j < n) : ixN n (j : Int) = some j := by
  unfold ixN
  rw [if_pos (by omega), if_pos (by omega)]
  rfl
theorem ixN_last {n : Nat} (h : 0 < n) : ixN n (-1) = some (n - 1) := by
  unfold ixN
  rw [if_neg (by omega)]
  rw [if_pos (by omega)]
  congr 1
  omega

def qvO (i : Nat) : Option (Option T) → Option Qv
  | some (some t) => some (match t with
    | .d x => .dat x
    | _ => .pl i [])
  | _ => none
theorem qVar_eq {i : Nat} {G : Gm} : qVar i G = qvO i G[i]? := rfl
theorem qvO_iL {i : Nat} {xs : List Int} : qvO i (some (some (iL xs))) = some (.pl i []) := rfl
theorem qvO_d {i : Nat} {d : PyData} : qvO i (some (some (.d d))) = some (.dat d) := rfl
def popO (s : Nat) (G : Gm) (k : Tm → Gm → Prop) : Option (Option T) → Prop
  | some (some (.lst ts)) => match ts[ts.length - 1]? with
    | some (.d x) => k (.t (.d x)) (G.set s (some (.lst ts.dropLast)))
    | _ => False
  | _ => False
theorem wPop_eq {s : Nat} {G : Gm} {k : Tm → Gm → Prop} : wPop s G k = popO s G k G[s]? := rfl
theorem popO_iL {s : Nat} {G : Gm} {k : Tm → Gm → Prop} {ys : List Int} {z : Int} : popO s G k (some (some (iL (ys ++ [z])))) = k (.t (.d (.int z))) (G.set s (some (iL ys))) := by
  have e : (iE (ys ++ [z]))[(iE (ys ++ [z])).length - 1]? = some (.d (.int z)) := iE_get (by rw [iE_len]; simp)
  show (match (iE (ys ++ [z]))[(iE (ys ++ [z])).length - 1]? with
    | some (.d x) => k (.t (.d x)) (G.set s (some (.lst (iE (ys ++ [z])).dropLast)))
    | _ => False) = _
  rw [e, iE_drop, List.dropLast_concat]
  rfl
def appO (s : Nat) (y : T) (G : Gm) (k : Tm → Gm → Prop) : Option (Option T) → Prop
  | some (some (.lst ts)) => ts.length < sizeLine ∧ k (.t (.d .none)) (G.set s (some (.lst (ts ++ [y]))))
  | _ => False
theorem wApp_eq {s : Nat} {we : WE} {G : Gm} {k : Tm → Gm → Prop} : wApp s we G k = we G fun x G1 => match takeOf G1 x with
  | some (y, G2) => appO s y G2 k G2[s]?
  | none => False := by
  unfold wApp
  congr 1
theorem appO_iL {s : Nat} {G : Gm} {k : Tm → Gm → Prop} {xs : List Int} {z : Int} : appO s (.d (.int z)) G k (some (some (iL xs))) = (xs.length < sizeLine ∧ k (.t (.d .none)) (G.set s (some (iL (xs ++ [z]))))) := by
  show ((iE xs).length < sizeLine ∧ k (.t (.d .none)) (G.set s (some (.lst (iE xs ++ [.d (.int z)]))))) = _
  rw [iE_len, iE_app]
  rfl
theorem isLst_iL {xs : List Int} : isLst (some (some (iL xs))) = True := rfl

def lstO : Option T → Option (List T)
  | some t1 => match t1.core with
    | .lst ts => some ts
    | _ => none
  | none => none
theorem lstAt_eq {G : Gm} {s : Nat} {p : List Stp} : lstAt G s p = lstO (placeOf G s p) := rfl
theorem lstO_iL {xs : List Int} : lstO (some (iL xs)) = some (iE xs) := rfl
end DL
end
section
set_option autoImplicit false
/-! DL16: sizes, places in lists. -/
namespace DL
open PySem PySem.Spec PyProof.Rows L2
def Bd (B : Nat) (x : Int) : Prop := x.natAbs < 2 ^ B
def Bds (B : Nat) (xs : List Int) : Prop := ∀ x ∈ xs, Bd B x
def at0 (xs : List Int) (j : Nat) : Int := xs[j]?.getD 0
theorem at0_some {xs : List Int} {j : Nat} (h : j < xs.length) : xs[j]? = some (at0 xs j) := by
  unfold at0
  rw [List.getElem?_eq_getElem h]
  rfl
theorem at0_mem {xs : List Int} {j : Nat} (h : j < xs.length) : at0 xs j ∈ xs := List.mem_of_getElem? (at0_some h)
theorem at0_out {xs : List Int} {j : Nat} (h : xs.length ≤ j) : at0 xs j = 0 := by
  unfold at0
  rw [List.getElem?_eq_none h]
  rfl
theorem at0_nil {j : Nat} : at0 [] j = 0 := at0_out (Nat.zero_le _)
theorem at0_zero {x : Int} {xs : List Int} : at0 (x :: xs) 0 = x := rfl
theorem at0_succ {x : Int} {xs : List Int} {j : Nat} : at0 (x :: xs) (j + 1) = at0 xs j := by
  unfold at0
  rw [List.getElem?_cons_succ]
theorem at0_set {xs : List Int} {i j : Nat} {v : Int} : at0 (xs.set i v) j = if i = j ∧ j < xs.length then v else at0 xs j := by
  unfold at0
  by_cases h : i = j
  · subst h
    by_cases hl : i < xs.length
    · rw [if_pos ⟨rfl, hl⟩, List.getElem?_set_self hl]
      rfl
    · rw [if_neg fun z => hl z.2, List.getElem?_eq_none (by rw [List.length_set]; omega), List.getElem?_eq_none (by omega)]
  · rw [if_neg fun z => h z.1, List.getElem?_set_ne h]
theorem at0_map {xs : List Int} {f : Int → Int} {j : Nat} (h : j < xs.length) : at0 (xs.map f) j = f (at0 xs j) := by
  unfold at0
  rw [List.getElem?_map, List.getElem?_eq_getElem h]
  rfl
theorem at0_app_l {xs ys : List Int} {j : Nat} (h : j < xs.length) : at0 (xs ++ ys) j = at0 xs j := by
  unfold at0
  rw [List.getElem?_append_left h]
theorem at0_app_r {xs ys : List Int} {j : Nat} (h : xs.length ≤ j) : at0 (xs ++ ys) j = at0 ys (j - xs.length) := by
  unfold at0
  rw [List.getElem?_append_right h]
theorem at0_last {xs : List Int} {z : Int} : at0 (xs ++ [z]) xs.length = z := by
  rw [at0_app_r (Nat.le_refl _), Nat.sub_self]
  rfl
theorem ext0 {xs ys : List Int} (hl : xs.length = ys.length) (h : ∀ j, j < xs.length → at0 xs j = at0 ys j) : xs = ys := by
  refine List.ext_getElem? fun j => ?_
  by_cases hj : j < xs.length
  · rw [at0_some hj, at0_some (by omega), h j hj]
  · rw [List.getElem?_eq_none (by omega), List.getElem?_eq_none (by omega)]
theorem ixN_of {n j : Nat} {i : Int} (h : i = (j : Int)) (h2 : j < n) : ixN n i = some j := by rw [h, ixN_nat h2]
theorem qIxO_at {s : Nat} {p : List Stp} {i : Int} {j : Nat} {xs : List Int} (h : i = (j : Int)) (h2 : j < xs.length) : qIxO s p i (some (iE xs)) = some (.dat (.int (at0 xs j))) := qIxO_iE (ixN_of h h2) (at0_some h2)
theorem qIxO_last {s : Nat} {p : List Stp} {xs : List Int} (h2 : 0 < xs.length) : qIxO s p (-1) (some (iE xs)) = some (.dat (.int (at0 xs (xs.length - 1)))) := qIxO_iE (ixN_last h2) (at0_some (by omega))
theorem atI_at {i : Int} {j : Nat} {xs : List Int} (h : i = (j : Int)) (h2 : j < xs.length) : atI (iD xs) i = some (.int (at0 xs j)) := atI_iD (ixN_of h h2) (at0_some h2)
theorem atI_last {xs : List Int} (h2 : 0 < xs.length) : atI (iD xs) (-1) = some (.int (at0 xs (xs.length - 1))) := atI_iD (ixN_last h2) (at0_some (by omega))
/-! sizes -/
theorem Bd.mono {m n : Nat} {x : Int} (h : Bd m x) (hl : m ≤ n) : Bd n x := Nat.lt_of_lt_of_le h (Nat.pow_le_pow_right (by decide) hl)
theorem Bds.mono {m n : Nat} {xs : List Int} (h : Bds m xs) (hl : m ≤ n) : Bds n xs := fun x hx => (h x hx).mono hl
theorem Bd.bits {m : Nat} {x : Int} (h : Bd m x) : Builtin.Int.intBits x ≤ m := PySem.intBits_le_iff.mpr h
theorem mulOk {m n : Nat} {a b : Int} (ha : Bd m a) (hb : Bd n b) (h : m + n ≤ 134217728) : IntMulOk a b := IntMulOk.of_le ha.bits hb.bits h
theorem Bd.mul {m n : Nat} {a b : Int} (ha : Bd m a) (hb : Bd n b) : Bd (m + n) (a * b) := by
  unfold Bd at *
  rw [Int.natAbs_mul, Nat.pow_add]
  exact Nat.mul_lt_mul'' ha hb
theorem Bd.add {m : Nat} {a b : Int} (ha : Bd m a) (hb : Bd m b) : Bd (m + 1) (a + b) := by
  unfold Bd at *
  have := Int.natAbs_add_le a b
  rw [Nat.pow_succ]
  omega
theorem Bd.neg {m : Nat} {a : Int} (ha : Bd m a) : Bd m (-a) := by
  unfold Bd at *
  rw [Int.natAbs_neg]
  exact ha
theorem Bd.sub {m : Nat} {a b : Int} (ha : Bd m a) (hb : Bd m b) : Bd (m + 1) (a - b) := by
  rw [Int.sub_eq_add_neg]
  exact ha.add hb.neg
theorem Bd.zero {m : Nat} : Bd m 0 := Nat.pow_pos (by decide)
theorem Bds.at0 {m : Nat} {xs : List Int} (h : Bds m xs) (j : Nat) : Bd m (at0 xs j) := by
  by_cases hj : j < xs.length
  · exact h _ (at0_mem hj)
  · rw [at0_out (by omega)]
    exact Bd.zero
theorem Bds.of {m : Nat} {xs : List Int} (h : ∀ j, j < xs.length → Bd m (DL.at0 xs j)) : Bds m xs := fun x hx => by
  obtain ⟨j, hj, e⟩ := List.getElem_of_mem hx
  have := h j hj
  unfold DL.at0 at this
  rw [List.getElem?_eq_getElem hj, e] at this
  exact this
theorem Bds.nil {m : Nat} : Bds m [] := fun x hx => nomatch hx
theorem Bds.cons {m : Nat} {x : Int} {xs : List Int} (h : Bd m x) (h2 : Bds m xs) : Bds m (x :: xs) := fun y hy => by
  rcases List.mem_cons.mp hy with e | hy
  · rw [e]; exact h
  · exact h2 y hy
theorem Bds.tail {m : Nat} {x : Int} {xs : List Int} (h : Bds m (x :: xs)) : Bds m xs := fun y hy => h y (List.mem_cons_of_mem _ hy)
theorem Bds.head {m : Nat} {x : Int} {xs : List Int} (h : Bds m (x :: xs)) : Bd m x := h x List.mem_cons_self
/-- sums: with as many bits more as the list has items -/
theorem Bds.sum {m : Nat} : ∀ {xs : List Int}, Bds m xs → Bd (m + xs.length) xs.sum
  | [], _ => by rw [List.sum_nil]; exact Bd.zero
  | x :: xs, h => by
    rw [List.sum_cons, List.length_cons, show m + (xs.length + 1) = (m + xs.length) + 1 by omega]
    exact Bd.add (h.head.mono (by omega)) (Bds.sum h.tail)
theorem Bds.of_sub {m : Nat} {xs ys : List Int} (h : Bds m ys) (hs : ∀ x ∈ xs, x ∈ ys) : Bds m xs := fun x hx => h x (hs x hx)

/-! comprehensions over ints -/
theorem lcW_ints {g : WG} {tt : WT} {te : WE} {own : List Nat} {G : Gm} {k : List T → Gm → Prop} (h : Int → Int) (xs : List Int)
    (hs : ∀ n ∈ xs, ∀ (R : T → Gm → Prop) (R2 : Gm → Prop), R (.d (.int (h n))) G → g (.int n) G fun G2 => tt G2 fun b G3 => if b = true then te G3 fun y G4 => match takeOf G4 y with
      | some (ty, G5) => R ty (wipeG G5 own)
      | none => False else R2 (wipeG G3 own)) (hk : k (iE (xs.map h)) G) : lcW g tt te own (iD xs) [] G k := by
  refine lcW_all (fun d => match d with
    | .int n => .d (.int (h n))
    | _ => .d .none) (iD xs) [] (fun x hx R R2 hR => ?_) ?_
  · obtain ⟨n, hn, rfl⟩ := List.mem_map.mp hx
    exact hs n hn R R2 hR
  · rw [List.nil_append]
    have e : (iD xs).map (fun d => match d with
      | .int n => T.d (.int (h n))
      | _ => T.d .none) = iE (xs.map h) := by
      unfold iE iD
      rw [List.map_map, List.map_map, List.map_map]
      rfl
    rw [e]
    exact hk
/-- over a range -/
theorem lcW_range {g : WG} {tt : WT} {te : WE} {own : List Nat} {G : Gm} {k : List T → Gm → Prop} (h : Nat → T) (lo : Int) (n : Nat)
    (hs : ∀ i, i < n → ∀ (R : T → Gm → Prop) (R2 : Gm → Prop), R (h i) G → g (.int (lo + i)) G fun G2 => tt G2 fun b G3 => if b = true then te G3 fun y G4 => match takeOf G4 y with
      | some (ty, G5) => R ty (wipeG G5 own)
      | none => False else R2 (wipeG G3 own)) (hk : k ((List.range n).map h) G) : lcW g tt te own (rangeD lo n) [] G k := by
  refine lcW_all (fun d => match d with
    | .int m => h (m - lo).toNat
    | _ => .d .none) (rangeD lo n) [] (fun x hx R R2 hR => ?_) ?_
  · unfold rangeD at hx
    obtain ⟨i, hi, rfl⟩ := List.mem_map.mp hx
    refine hs i (List.mem_range.mp hi) R R2 ?_
    have e : (lo + (i : Int) - lo).toNat = i := by omega
    simp only [e] at hR
    exact hR
  · rw [List.nil_append]
    have e : (rangeD lo n).map (fun d => match d with
      | .int m => h (m - lo).toNat
      | _ => T.d .none) = (List.range n).map h := by
      unfold rangeD
      rw [List.map_map]
      refine List.map_congr_left fun i _ => ?_
      show h (lo + (i : Int) - lo).toNat = h i
      congr 1
      omega
    rw [e]
    exact hk

theorem keepD_none : keepD (some none) = none := rfl
theorem keepD_d {d : PyData} : keepD (some (some (.d d))) = some (.d d) := rfl
theorem keepD_iL {xs : List Int} : keepD (some (some (iL xs))) = none := rfl
theorem items_tup {ds : List PyData} : itemsD (.tuple ds) = some ds := rfl
theorem items_lst {ds : List PyData} : itemsD (.list ds) = some ds := rfl
end DL
end
section
set_option autoImplicit false
/-! MA: the polynomials' defs: what they compute. -/
namespace RT
open PySem PySem.Spec PyProof.Rows L2 DL
def trimP : List Int → List Int
  | [] => []
  | x :: xs => if x = 0 ∧ trimP xs = [] then [] else x :: trimP xs
theorem trimP_snoc0 : ∀ xs : List Int, trimP (xs ++ [0]) = trimP xs
  | [] => by simp [trimP]
  | x :: xs => by
    rw [List.cons_append, trimP, trimP, trimP_snoc0 xs]
theorem trimP_snoc {z : Int} (hz : z ≠ 0) : ∀ xs : List Int, trimP (xs ++ [z]) = xs ++ [z]
  | [] => by simp [trimP, hz]
  | x :: xs => by
    rw [List.cons_append, trimP, trimP_snoc hz xs, if_neg]
    rintro ⟨_, h⟩
    exact absurd h (by simp)
inductive Sq where
  | l (xs : List Int)
  | t (xs : List Int)
def Sq.d : Sq → PyData
  | .l xs => dL xs
  | .t xs => dT xs
def Sq.v : Sq → List Int
  | .l xs => xs
  | .t xs => xs
def S_trimmed : FS := ⟨Sq, fun x => [x.d], fun x => True, fun x r => r = .d (dT (trimP x.v))⟩
def gcdI (a b : Int) : Int := (Int.gcd a b : Int)
def S_divisor : FS := ⟨Int × Int, fun x => [.int x.1, .int x.2], fun _ => True, fun x r => r = .d (.int (gcdI x.1 x.2))⟩
def contI (p : List Int) : Int := p.foldl gcdI 0
def S_content : FS := ⟨Sq, fun x => [x.d], fun _ => True, fun x r => r = .d (.int (contI x.v))⟩
def lowP (p : List Int) : List Int := if p = [] then [] else p.map fun n => n.fdiv (if p.getLast?.getD 0 < 0 then 0 - contI p else contI p)
def S_lowest : FS := ⟨List Int, fun p => [dT p], fun p => (p = [] ∨ contI p ≠ 0) ∧ p.length ≤ 1000, fun p r => r = .d (dT (lowP p))⟩
end RT
end
section
/-! printed by gen.py: what each def reads -/
namespace RT
open PySem PySem.Spec PyProof.Rows L2 DL
def C_trimmed_1 : WT := (wAndT (wTest (w2 (wVar 1) (wLst wNil) fNe)) (wTest (w2 (wQ (qIx (qVar 1) (qNeg (qC (.int 1))))) (wC (.int 0)) fEq)))
def B_trimmed_2 : WS := (wExpr (wPop 1))
def W_trimmed : WS := (wSeq (wSet 1 (wn (wCons (wVar 0) wNil) (on1 fList))) (wSeq (wWhile C_trimmed_1 B_trimmed_2) (wRet (wn (wCons (wVar 1) wNil) (on1 fTuple)))))
def C_divisor_1 : WT := (wTest (w2 (wVar 1) (wC (.int 0)) fNe))
def B_divisor_2 : WS := (wPar 0 1 (wCons (wVar 1) (wCons (w2 (wVar 0) (wVar 1) fMod) wNil)))
def W_divisor : WS := (wSeq (wWhile C_divisor_1 B_divisor_2) (wRet (wn (wCons (wVar 0) wNil) (on1 fAbs))))
def B_content_1 : WS := (wSet 1 (wCall S_divisor (wCons (wVar 1) (wCons (wVar 2) wNil))))
def W_content : WS := (wSeq (wSet 1 (wC (.int 0))) (wSeq (wFor (wSq (wVar 0)) (wName 2) B_content_1) (wRet (wVar 1))))
def E_lowest_1 : WE := (w2 (wVar 2) (wVar 1) fDiv)
def W_lowest : WS := (wSeq (wIf (wTest (w2 (wVar 0) (wTup wNil) fEq)) (wRet (wTup wNil)) wNext) (wSeq (wSet 1 (wCall S_content (wCons (wVar 0) wNil))) (wSeq (wIf (wTest (w2 (wQ (qIx (qVar 0) (qNeg (qC (.int 1))))) (wC (.int 0)) fLt)) (wSet 1 (w2 (wC (.int 0)) (wVar 1) fSub)) wNext) (wRet (wn (wCons (wLc (wSq (wVar 0)) (wName 2) wYes E_lowest_1 [2]) wNil) (on1 fTuple))))))
end RT
end
section
set_option autoImplicit false
namespace RT
open PySem PySem.Spec PyProof.Rows L2 DL
theorem trim_loop (a : PyData) (D : DEnds) : ∀ (n : Nat) (xs : List Int), xs.length = n → D.nx [some (.d a), some (iL (trimP xs))] → ∃ m, whileW C_trimmed_1 B_trimmed_2 m D [some (.d a), some (iL xs)]
  | 0, xs, hn, h => by
    have e : xs = [] := List.eq_nil_of_length_eq_zero hn
    subst e
    refine ⟨1, ?_⟩
    rw [whileW]
    simp only [C_trimmed_1, wSeq, wSet, wAsg, wExpr, wRet, wIf, wTest, wNotT, wAndT, wOrT, wIfE, w1, w2, wn, wNil, wCons, wVar, varK_iL, varK_d, wC, wLst, wTup, wQ, qVar_eq, qvO_iL, qvO_d, qC, qI, qNeg, qLen, wNext, takesOf, take_al, take_t, takeO_iL, frzsOf, frzOf, datsOf, datOf, on1, on2, put_t, put_al, putO_iL, toD_iL, toD_d, flat_iL, flat_d, lst_nil, lst_one, lst_iE, lst_iD, nil_dT, nil_dL, fList_dL, fList_dT, fTuple_dL, fTuple_dT, fLen_dL, fLen_dT, fSum_dL, fCat_dL, fCat_int, fRep_dL, fRep_int, fSub_int, fMod_int, fDiv_int, fLt_int, fLe_int, fGt_int, fGe_int, fNeg_int, fAbs_int, fMax2_int, fMin2_int, fInt_int, fInt_bool, fSl_dL, fSl_dT, fSl3_dL, fSl3_dT, fEq_int, fNe_int, fEq_dL, fNe_dL, fEq_dT, fNe_dT, items_dL, items_dT, wSl, wSl3, wNo, wPart, wSq_eq, sqK_t, sqK_al, sqO_iL, qIx_eq, qIxK, lstAt_eq, lstO_iL, DL.placeOf, T.get, core_d, re_iL, re_d, T.put, List.getElem?_cons_zero, List.getElem?_cons_succ, List.set_cons_zero, List.set_cons_succ, List.length_cons, List.length_nil, iD_len, iE_len, and_true, true_and, Bool.not_true, Bool.not_false, if_true, if_false, Bool.false_eq_true, decide_eq_true_eq, Bool.not_eq_true', decide_eq_false_iff_not, wFor, wRng1, wRng2, wRng3, wName, endsD, startG, List.map_cons, List.map_nil, List.replicate, List.cons_append, List.nil_append, look, wCall, Option.some.injEq, exists_eq_left', wPar, DL.putAt, wSetQ, wApp_eq, appO_iL, isLst_iL, wPop_eq, popO_iL, Nat.zero_le, not_true_eq_false, not_false_eq_true, wLc, wipeG, restG, keepD_none, keepD_d, keepD_iL, items_tup, items_lst, wYes, wTTup, wTCons, wTNil]
    exact h
  | n + 1, xs, hn, h => by
    have ne : xs ≠ [] := fun e => by subst e; cases hn
    obtain ⟨ys, z, rfl⟩ : ∃ ys z, xs = ys ++ [z] := ⟨xs.dropLast, xs.getLast ne, (List.dropLast_concat_getLast ne).symm⟩
    have hl : (ys ++ [z]).length = ys.length + 1 := by simp
    have e1 : ixN (ys ++ [z]).length (-1) = some ys.length := by
      rw [ixN_last (by omega), hl]
      rfl
    have e2 : (ys ++ [z])[ys.length]? = some z := by simp
    have e3 : (iE (ys ++ [z]))[(ys ++ [z]).length - 1]? = some (.d (.int z)) := iE_get (by rw [hl]; exact e2)
    by_cases hz : z = 0
    · subst hz
      rw [trimP_snoc0] at h
      obtain ⟨m, hm⟩ := trim_loop a D n ys (by omega) h
      refine ⟨m + 1, ?_⟩
      rw [whileW]
      simp only [C_trimmed_1, B_trimmed_2, wSeq, wSet, wAsg, wExpr, wRet, wIf, wTest, wNotT, wAndT, wOrT, wIfE, w1, w2, wn, wNil, wCons, wVar, varK_iL, varK_d, wC, wLst, wTup, wQ, qVar_eq, qvO_iL, qvO_d, qC, qI, qNeg, qLen, wNext, takesOf, take_al, take_t, takeO_iL, frzsOf, frzOf, datsOf, datOf, on1, on2, put_t, put_al, putO_iL, toD_iL, toD_d, flat_iL, flat_d, lst_nil, lst_one, lst_iE, lst_iD, nil_dT, nil_dL, fList_dL, fList_dT, fTuple_dL, fTuple_dT, fLen_dL, fLen_dT, fSum_dL, fCat_dL, fCat_int, fRep_dL, fRep_int, fSub_int, fMod_int, fDiv_int, fLt_int, fLe_int, fGt_int, fGe_int, fNeg_int, fAbs_int, fMax2_int, fMin2_int, fInt_int, fInt_bool, fSl_dL, fSl_dT, fSl3_dL, fSl3_dT, fEq_int, fNe_int, fEq_dL, fNe_dL, fEq_dT, fNe_dT, items_dL, items_dT, wSl, wSl3, wNo, wPart, wSq_eq, sqK_t, sqK_al, sqO_iL, qIx_eq, qIxK, lstAt_eq, lstO_iL, DL.placeOf, T.get, core_d, re_iL, re_d, T.put, List.getElem?_cons_zero, List.getElem?_cons_succ, List.set_cons_zero, List.set_cons_succ, List.length_cons, List.length_nil, iD_len, iE_len, and_true, true_and, Bool.not_true, Bool.not_false, if_true, if_false, Bool.false_eq_true, decide_eq_true_eq, Bool.not_eq_true', decide_eq_false_iff_not, wFor, wRng1, wRng2, wRng3, wName, endsD, startG, List.map_cons, List.map_nil, List.replicate, List.cons_append, List.nil_append, look, wCall, Option.some.injEq, exists_eq_left', wPar, DL.putAt, wSetQ, wApp_eq, appO_iL, isLst_iL, wPop_eq, popO_iL, Nat.zero_le, not_true_eq_false, not_false_eq_true, wLc, wipeG, restG, keepD_none, keepD_d, keepD_iL, items_tup, items_lst, wYes, wTTup, wTCons, wTNil, ne, qIxO_iE e1 e2]
      exact hm
    · rw [trimP_snoc hz] at h
      refine ⟨1, ?_⟩
      rw [whileW]
      simp only [C_trimmed_1, wSeq, wSet, wAsg, wExpr, wRet, wIf, wTest, wNotT, wAndT, wOrT, wIfE, w1, w2, wn, wNil, wCons, wVar, varK_iL, varK_d, wC, wLst, wTup, wQ, qVar_eq, qvO_iL, qvO_d, qC, qI, qNeg, qLen, wNext, takesOf, take_al, take_t, takeO_iL, frzsOf, frzOf, datsOf, datOf, on1, on2, put_t, put_al, putO_iL, toD_iL, toD_d, flat_iL, flat_d, lst_nil, lst_one, lst_iE, lst_iD, nil_dT, nil_dL, fList_dL, fList_dT, fTuple_dL, fTuple_dT, fLen_dL, fLen_dT, fSum_dL, fCat_dL, fCat_int, fRep_dL, fRep_int, fSub_int, fMod_int, fDiv_int, fLt_int, fLe_int, fGt_int, fGe_int, fNeg_int, fAbs_int, fMax2_int, fMin2_int, fInt_int, fInt_bool, fSl_dL, fSl_dT, fSl3_dL, fSl3_dT, fEq_int, fNe_int, fEq_dL, fNe_dL, fEq_dT, fNe_dT, items_dL, items_dT, wSl, wSl3, wNo, wPart, wSq_eq, sqK_t, sqK_al, sqO_iL, qIx_eq, qIxK, lstAt_eq, lstO_iL, DL.placeOf, T.get, core_d, re_iL, re_d, T.put, List.getElem?_cons_zero, List.getElem?_cons_succ, List.set_cons_zero, List.set_cons_succ, List.length_cons, List.length_nil, iD_len, iE_len, and_true, true_and, Bool.not_true, Bool.not_false, if_true, if_false, Bool.false_eq_true, decide_eq_true_eq, Bool.not_eq_true', decide_eq_false_iff_not, wFor, wRng1, wRng2, wRng3, wName, endsD, startG, List.map_cons, List.map_nil, List.replicate, List.cons_append, List.nil_append, look, wCall, Option.some.injEq, exists_eq_left', wPar, DL.putAt, wSetQ, wApp_eq, appO_iL, isLst_iL, wPop_eq, popO_iL, Nat.zero_le, not_true_eq_false, not_false_eq_true, wLc, wipeG, restG, keepD_none, keepD_d, keepD_iL, items_tup, items_lst, wYes, wTTup, wTCons, wTNil, ne, qIxO_iE e1 e2, not_false_eq_true, hz]
      exact h
theorem WK_trimmed : ∀ x, S_trimmed.pre x → W_trimmed (endsD (S_trimmed.post x)) (startG 2 (S_trimmed.args x)) := by
  intro x _
  have go : ∀ a (k : DEnds), k.rt (.t (.d (dT (trimP x.v)))) [some (.d a), some (iL (trimP x.v))] → (wSeq (wWhile C_trimmed_1 B_trimmed_2) (wRet (wn (wCons (wVar 1) wNil) (on1 fTuple)))) k [some (.d a), some (iL x.v)] := by
    intro a k h
    obtain ⟨m, hm⟩ := trim_loop a { k with nx := wRet (wn (wCons (wVar 1) wNil) (on1 fTuple)) k } x.v.length x.v rfl (by simp only [wSeq, wSet, wAsg, wExpr, wRet, wIf, wTest, wNotT, wAndT, wOrT, wIfE, w1, w2, wn, wNil, wCons, wVar, varK_iL, varK_d, wC, wLst, wTup, wQ, qVar_eq, qvO_iL, qvO_d, qC, qI, qNeg, qLen, wNext, takesOf, take_al, take_t, takeO_iL, frzsOf, frzOf, datsOf, datOf, on1, on2, put_t, put_al, putO_iL, toD_iL, toD_d, flat_iL, flat_d, lst_nil, lst_one, lst_iE, lst_iD, nil_dT, nil_dL, fList_dL, fList_dT, fTuple_dL, fTuple_dT, fLen_dL, fLen_dT, fSum_dL, fCat_dL, fCat_int, fRep_dL, fRep_int, fSub_int, fMod_int, fDiv_int, fLt_int, fLe_int, fGt_int, fGe_int, fNeg_int, fAbs_int, fMax2_int, fMin2_int, fInt_int, fInt_bool, fSl_dL, fSl_dT, fSl3_dL, fSl3_dT, fEq_int, fNe_int, fEq_dL, fNe_dL, fEq_dT, fNe_dT, items_dL, items_dT, wSl, wSl3, wNo, wPart, wSq_eq, sqK_t, sqK_al, sqO_iL, qIx_eq, qIxK, lstAt_eq, lstO_iL, DL.placeOf, T.get, core_d, re_iL, re_d, T.put, List.getElem?_cons_zero, List.getElem?_cons_succ, List.set_cons_zero, List.set_cons_succ, List.length_cons, List.length_nil, iD_len, iE_len, and_true, true_and, Bool.not_true, Bool.not_false, if_true, if_false, Bool.false_eq_true, decide_eq_true_eq, Bool.not_eq_true', decide_eq_false_iff_not, wFor, wRng1, wRng2, wRng3, wName, endsD, startG, List.map_cons, List.map_nil, List.replicate, List.cons_append, List.nil_append, look, wCall, Option.some.injEq, exists_eq_left', wPar, DL.putAt, wSetQ, wApp_eq, appO_iL, isLst_iL, wPop_eq, popO_iL, Nat.zero_le, not_true_eq_false, not_false_eq_true, wLc, wipeG, restG, keepD_none, keepD_d, keepD_iL, items_tup, items_lst, wYes, wTTup, wTCons, wTNil]; exact h)
    exact ⟨m, hm⟩
  cases x with
  | l xs =>
    simp only [W_trimmed, S_trimmed, Sq.d]
    rw [wSeq]
    simp only [wSet, wSeq, wSet, wAsg, wExpr, wRet, wIf, wTest, wNotT, wAndT, wOrT, wIfE, w1, w2, wn, wNil, wCons, wVar, varK_iL, varK_d, wC, wLst, wTup, wQ, qVar_eq, qvO_iL, qvO_d, qC, qI, qNeg, qLen, wNext, takesOf, take_al, take_t, takeO_iL, frzsOf, frzOf, datsOf, datOf, on1, on2, put_t, put_al, putO_iL, toD_iL, toD_d, flat_iL, flat_d, lst_nil, lst_one, lst_iE, lst_iD, nil_dT, nil_dL, fList_dL, fList_dT, fTuple_dL, fTuple_dT, fLen_dL, fLen_dT, fSum_dL, fCat_dL, fCat_int, fRep_dL, fRep_int, fSub_int, fMod_int, fDiv_int, fLt_int, fLe_int, fGt_int, fGe_int, fNeg_int, fAbs_int, fMax2_int, fMin2_int, fInt_int, fInt_bool, fSl_dL, fSl_dT, fSl3_dL, fSl3_dT, fEq_int, fNe_int, fEq_dL, fNe_dL, fEq_dT, fNe_dT, items_dL, items_dT, wSl, wSl3, wNo, wPart, wSq_eq, sqK_t, sqK_al, sqO_iL, qIx_eq, qIxK, lstAt_eq, lstO_iL, DL.placeOf, T.get, core_d, re_iL, re_d, T.put, List.getElem?_cons_zero, List.getElem?_cons_succ, List.set_cons_zero, List.set_cons_succ, List.length_cons, List.length_nil, iD_len, iE_len, and_true, true_and, Bool.not_true, Bool.not_false, if_true, if_false, Bool.false_eq_true, decide_eq_true_eq, Bool.not_eq_true', decide_eq_false_iff_not, wFor, wRng1, wRng2, wRng3, wName, endsD, startG, List.map_cons, List.map_nil, List.replicate, List.cons_append, List.nil_append, look, wCall, Option.some.injEq, exists_eq_left', wPar, DL.putAt, wSetQ, wApp_eq, appO_iL, isLst_iL, wPop_eq, popO_iL, Nat.zero_le, not_true_eq_false, not_false_eq_true, wLc, wipeG, restG, keepD_none, keepD_d, keepD_iL, items_tup, items_lst, wYes, wTTup, wTCons, wTNil]
    exact ⟨by decide, go _ _ ⟨_, rfl, rfl⟩⟩
  | t xs =>
    simp only [W_trimmed, S_trimmed, Sq.d]
    rw [wSeq]
    simp only [wSet, wSeq, wSet, wAsg, wExpr, wRet, wIf, wTest, wNotT, wAndT, wOrT, wIfE, w1, w2, wn, wNil, wCons, wVar, varK_iL, varK_d, wC, wLst, wTup, wQ, qVar_eq, qvO_iL, qvO_d, qC, qI, qNeg, qLen, wNext, takesOf, take_al, take_t, takeO_iL, frzsOf, frzOf, datsOf, datOf, on1, on2, put_t, put_al, putO_iL, toD_iL, toD_d, flat_iL, flat_d, lst_nil, lst_one, lst_iE, lst_iD, nil_dT, nil_dL, fList_dL, fList_dT, fTuple_dL, fTuple_dT, fLen_dL, fLen_dT, fSum_dL, fCat_dL, fCat_int, fRep_dL, fRep_int, fSub_int, fMod_int, fDiv_int, fLt_int, fLe_int, fGt_int, fGe_int, fNeg_int, fAbs_int, fMax2_int, fMin2_int, fInt_int, fInt_bool, fSl_dL, fSl_dT, fSl3_dL, fSl3_dT, fEq_int, fNe_int, fEq_dL, fNe_dL, fEq_dT, fNe_dT, items_dL, items_dT, wSl, wSl3, wNo, wPart, wSq_eq, sqK_t, sqK_al, sqO_iL, qIx_eq, qIxK, lstAt_eq, lstO_iL, DL.placeOf, T.get, core_d, re_iL, re_d, T.put, List.getElem?_cons_zero, List.getElem?_cons_succ, List.set_cons_zero, List.set_cons_succ, List.length_cons, List.length_nil, iD_len, iE_len, and_true, true_and, Bool.not_true, Bool.not_false, if_true, if_false, Bool.false_eq_true, decide_eq_true_eq, Bool.not_eq_true', decide_eq_false_iff_not, wFor, wRng1, wRng2, wRng3, wName, endsD, startG, List.map_cons, List.map_nil, List.replicate, List.cons_append, List.nil_append, look, wCall, Option.some.injEq, exists_eq_left', wPar, DL.putAt, wSetQ, wApp_eq, appO_iL, isLst_iL, wPop_eq, popO_iL, Nat.zero_le, not_true_eq_false, not_false_eq_true, wLc, wipeG, restG, keepD_none, keepD_d, keepD_iL, items_tup, items_lst, wYes, wTTup, wTCons, wTNil]
    exact ⟨by decide, go _ _ ⟨_, rfl, rfl⟩⟩
end RT
end
section
set_option autoImplicit false
namespace RT
open PySem PySem.Spec PyProof.Rows L2 DL
theorem natAbs_fmod_lt (a : Int) {b : Int} (h : b ≠ 0) : (a.fmod b).natAbs < b.natAbs := by
  by_cases hb : 0 < b
  · have h1 := Int.fmod_nonneg_of_pos a hb
    have h2 := Int.fmod_lt_of_pos a hb
    omega
  · have h1 := Int.fmod_nonneg_of_pos (-a) (b := -b) (by omega)
    have h2 := Int.fmod_lt_of_pos (-a) (b := -b) (by omega)
    rw [Int.neg_fmod_neg] at h1 h2
    omega
theorem gcd_fmod (a b : Int) : Int.gcd b (a.fmod b) = Int.gcd a b := by
  rw [Int.fmod_def, Int.gcd_sub_mul_left_right, Int.gcd_comm]
theorem div_loop (D : DEnds) : ∀ (n : Nat) (a b : Int), b.natAbs < n → (∀ x : Int, x.natAbs = Int.gcd a b → D.nx [some (.d (.int x)), some (.d (.int 0))]) → ∃ m, whileW C_divisor_1 B_divisor_2 m D [some (.d (.int a)), some (.d (.int b))]
  | 0, a, b, hn, h => by omega
  | n + 1, a, b, hn, h => by
    by_cases hb : b = 0
    · subst hb
      refine ⟨1, ?_⟩
      rw [whileW]
      simp only [C_divisor_1, wSeq, wSet, wAsg, wExpr, wRet, wIf, wTest, wNotT, wAndT, wOrT, wIfE, w1, w2, wn, wNil, wCons, wVar, varK_iL, varK_d, wC, wLst, wTup, wQ, qVar_eq, qvO_iL, qvO_d, qC, qI, qNeg, qLen, wNext, takesOf, take_al, take_t, takeO_iL, frzsOf, frzOf, datsOf, datOf, on1, on2, put_t, put_al, putO_iL, toD_iL, toD_d, flat_iL, flat_d, lst_nil, lst_one, lst_iE, lst_iD, nil_dT, nil_dL, fList_dL, fList_dT, fTuple_dL, fTuple_dT, fLen_dL, fLen_dT, fSum_dL, fCat_dL, fCat_int, fRep_dL, fRep_int, fSub_int, fMod_int, fDiv_int, fLt_int, fLe_int, fGt_int, fGe_int, fNeg_int, fAbs_int, fMax2_int, fMin2_int, fInt_int, fInt_bool, fSl_dL, fSl_dT, fSl3_dL, fSl3_dT, fEq_int, fNe_int, fEq_dL, fNe_dL, fEq_dT, fNe_dT, items_dL, items_dT, wSl, wSl3, wNo, wPart, wSq_eq, sqK_t, sqK_al, sqO_iL, qIx_eq, qIxK, lstAt_eq, lstO_iL, DL.placeOf, T.get, core_d, re_iL, re_d, T.put, List.getElem?_cons_zero, List.getElem?_cons_succ, List.set_cons_zero, List.set_cons_succ, List.length_cons, List.length_nil, iD_len, iE_len, and_true, true_and, Bool.not_true, Bool.not_false, if_true, if_false, Bool.false_eq_true, decide_eq_true_eq, Bool.not_eq_true', decide_eq_false_iff_not, wFor, wRng1, wRng2, wRng3, wName, endsD, startG, List.map_cons, List.map_nil, List.replicate, List.cons_append, List.nil_append, look, wCall, Option.some.injEq, exists_eq_left', wPar, DL.putAt, wSetQ, wApp_eq, appO_iL, isLst_iL, wPop_eq, popO_iL, Nat.zero_le, not_true_eq_false, not_false_eq_true, wLc, wipeG, restG, keepD_none, keepD_d, keepD_iL, items_tup, items_lst, wYes, wTTup, wTCons, wTNil]
      exact h a (by simp)
    · obtain ⟨m, hm⟩ := div_loop D n b (a.fmod b) (by have := natAbs_fmod_lt a hb; omega) (fun x hx => h x (by rw [hx, gcd_fmod]))
      refine ⟨m + 1, ?_⟩
      rw [whileW]
      simp only [C_divisor_1, B_divisor_2, wSeq, wSet, wAsg, wExpr, wRet, wIf, wTest, wNotT, wAndT, wOrT, wIfE, w1, w2, wn, wNil, wCons, wVar, varK_iL, varK_d, wC, wLst, wTup, wQ, qVar_eq, qvO_iL, qvO_d, qC, qI, qNeg, qLen, wNext, takesOf, take_al, take_t, takeO_iL, frzsOf, frzOf, datsOf, datOf, on1, on2, put_t, put_al, putO_iL, toD_iL, toD_d, flat_iL, flat_d, lst_nil, lst_one, lst_iE, lst_iD, nil_dT, nil_dL, fList_dL, fList_dT, fTuple_dL, fTuple_dT, fLen_dL, fLen_dT, fSum_dL, fCat_dL, fCat_int, fRep_dL, fRep_int, fSub_int, fMod_int, fDiv_int, fLt_int, fLe_int, fGt_int, fGe_int, fNeg_int, fAbs_int, fMax2_int, fMin2_int, fInt_int, fInt_bool, fSl_dL, fSl_dT, fSl3_dL, fSl3_dT, fEq_int, fNe_int, fEq_dL, fNe_dL, fEq_dT, fNe_dT, items_dL, items_dT, wSl, wSl3, wNo, wPart, wSq_eq, sqK_t, sqK_al, sqO_iL, qIx_eq, qIxK, lstAt_eq, lstO_iL, DL.placeOf, T.get, core_d, re_iL, re_d, T.put, List.getElem?_cons_zero, List.getElem?_cons_succ, List.set_cons_zero, List.set_cons_succ, List.length_cons, List.length_nil, iD_len, iE_len, and_true, true_and, Bool.not_true, Bool.not_false, if_true, if_false, Bool.false_eq_true, decide_eq_true_eq, Bool.not_eq_true', decide_eq_false_iff_not, wFor, wRng1, wRng2, wRng3, wName, endsD, startG, List.map_cons, List.map_nil, List.replicate, List.cons_append, List.nil_append, look, wCall, Option.some.injEq, exists_eq_left', wPar, DL.putAt, wSetQ, wApp_eq, appO_iL, isLst_iL, wPop_eq, popO_iL, Nat.zero_le, not_true_eq_false, not_false_eq_true, wLc, wipeG, restG, keepD_none, keepD_d, keepD_iL, items_tup, items_lst, wYes, wTTup, wTCons, wTNil, hb]
      exact ⟨hb, by decide, by decide, hm⟩
theorem WK_divisor : ∀ x, S_divisor.pre x → W_divisor (endsD (S_divisor.post x)) (startG 2 (S_divisor.args x)) := by
  rintro ⟨a, b⟩ _
  obtain ⟨m, hm⟩ := div_loop { (endsD (S_divisor.post (a, b))) with nx := (wRet (wn (wCons (wVar 0) wNil) (on1 fAbs))) (endsD (S_divisor.post (a, b))) } (b.natAbs + 1) a b (by omega) (fun x hx => by
    simp only [wSeq, wSet, wAsg, wExpr, wRet, wIf, wTest, wNotT, wAndT, wOrT, wIfE, w1, w2, wn, wNil, wCons, wVar, varK_iL, varK_d, wC, wLst, wTup, wQ, qVar_eq, qvO_iL, qvO_d, qC, qI, qNeg, qLen, wNext, takesOf, take_al, take_t, takeO_iL, frzsOf, frzOf, datsOf, datOf, on1, on2, put_t, put_al, putO_iL, toD_iL, toD_d, flat_iL, flat_d, lst_nil, lst_one, lst_iE, lst_iD, nil_dT, nil_dL, fList_dL, fList_dT, fTuple_dL, fTuple_dT, fLen_dL, fLen_dT, fSum_dL, fCat_dL, fCat_int, fRep_dL, fRep_int, fSub_int, fMod_int, fDiv_int, fLt_int, fLe_int, fGt_int, fGe_int, fNeg_int, fAbs_int, fMax2_int, fMin2_int, fInt_int, fInt_bool, fSl_dL, fSl_dT, fSl3_dL, fSl3_dT, fEq_int, fNe_int, fEq_dL, fNe_dL, fEq_dT, fNe_dT, items_dL, items_dT, wSl, wSl3, wNo, wPart, wSq_eq, sqK_t, sqK_al, sqO_iL, qIx_eq, qIxK, lstAt_eq, lstO_iL, DL.placeOf, T.get, core_d, re_iL, re_d, T.put, List.getElem?_cons_zero, List.getElem?_cons_succ, List.set_cons_zero, List.set_cons_succ, List.length_cons, List.length_nil, iD_len, iE_len, and_true, true_and, Bool.not_true, Bool.not_false, if_true, if_false, Bool.false_eq_true, decide_eq_true_eq, Bool.not_eq_true', decide_eq_false_iff_not, wFor, wRng1, wRng2, wRng3, wName, endsD, startG, List.map_cons, List.map_nil, List.replicate, List.cons_append, List.nil_append, look, wCall, Option.some.injEq, exists_eq_left', wPar, DL.putAt, wSetQ, wApp_eq, appO_iL, isLst_iL, wPop_eq, popO_iL, Nat.zero_le, not_true_eq_false, not_false_eq_true, wLc, wipeG, restG, keepD_none, keepD_d, keepD_iL, items_tup, items_lst, wYes, wTTup, wTCons, wTNil]
    show T.d (.int _) = T.d (.int (gcdI a b)); unfold gcdI; rw [hx])
  exact ⟨m, hm⟩
theorem content_loop (a : PyData) (D : DEnds) (o : Option T) : ∀ (ds : List Int) (c : Int) (o : Option T), (∀ o, D.nx [some (.d a), some (.d (.int (ds.foldl gcdI c))), o]) → forW (wName 2) B_content_1 (iD ds) D [some (.d a), some (.d (.int c)), o]
  | [], c, o, h => h o
  | x :: xs, c, o, h => by
    show forW (wName 2) B_content_1 (.int x :: iD xs) D _
    rw [forW]
    simp only [B_content_1, wSeq, wSet, wAsg, wExpr, wRet, wIf, wTest, wNotT, wAndT, wOrT, wIfE, w1, w2, wn, wNil, wCons, wVar, varK_iL, varK_d, wC, wLst, wTup, wQ, qVar_eq, qvO_iL, qvO_d, qC, qI, qNeg, qLen, wNext, takesOf, take_al, take_t, takeO_iL, frzsOf, frzOf, datsOf, datOf, on1, on2, put_t, put_al, putO_iL, toD_iL, toD_d, flat_iL, flat_d, lst_nil, lst_one, lst_iE, lst_iD, nil_dT, nil_dL, fList_dL, fList_dT, fTuple_dL, fTuple_dT, fLen_dL, fLen_dT, fSum_dL, fCat_dL, fCat_int, fRep_dL, fRep_int, fSub_int, fMod_int, fDiv_int, fLt_int, fLe_int, fGt_int, fGe_int, fNeg_int, fAbs_int, fMax2_int, fMin2_int, fInt_int, fInt_bool, fSl_dL, fSl_dT, fSl3_dL, fSl3_dT, fEq_int, fNe_int, fEq_dL, fNe_dL, fEq_dT, fNe_dT, items_dL, items_dT, wSl, wSl3, wNo, wPart, wSq_eq, sqK_t, sqK_al, sqO_iL, qIx_eq, qIxK, lstAt_eq, lstO_iL, DL.placeOf, T.get, core_d, re_iL, re_d, T.put, List.getElem?_cons_zero, List.getElem?_cons_succ, List.set_cons_zero, List.set_cons_succ, List.length_cons, List.length_nil, iD_len, iE_len, and_true, true_and, Bool.not_true, Bool.not_false, if_true, if_false, Bool.false_eq_true, decide_eq_true_eq, Bool.not_eq_true', decide_eq_false_iff_not, wFor, wRng1, wRng2, wRng3, wName, endsD, startG, List.map_cons, List.map_nil, List.replicate, List.cons_append, List.nil_append, look, wCall, Option.some.injEq, exists_eq_left', wPar, DL.putAt, wSetQ, wApp_eq, appO_iL, isLst_iL, wPop_eq, popO_iL, Nat.zero_le, not_true_eq_false, not_false_eq_true, wLc, wipeG, restG, keepD_none, keepD_d, keepD_iL, items_tup, items_lst, wYes, wTTup, wTCons, wTNil]
    refine ⟨by decide, (c, x), rfl, trivial, fun r hr => ?_⟩
    have hr : r = .d (.int (gcdI c x)) := hr
    subst hr
    exact ⟨by decide, content_loop a D o xs (gcdI c x) _ h⟩
theorem WK_content : ∀ x, S_content.pre x → W_content (endsD (S_content.post x)) (startG 3 (S_content.args x)) := by
  intro x _
  cases x with
  | l xs =>
    simp only [W_content, S_content, Sq.d]
    rw [wSeq]
    simp only [wSet, wSeq, wSet, wAsg, wExpr, wRet, wIf, wTest, wNotT, wAndT, wOrT, wIfE, w1, w2, wn, wNil, wCons, wVar, varK_iL, varK_d, wC, wLst, wTup, wQ, qVar_eq, qvO_iL, qvO_d, qC, qI, qNeg, qLen, wNext, takesOf, take_al, take_t, takeO_iL, frzsOf, frzOf, datsOf, datOf, on1, on2, put_t, put_al, putO_iL, toD_iL, toD_d, flat_iL, flat_d, lst_nil, lst_one, lst_iE, lst_iD, nil_dT, nil_dL, fList_dL, fList_dT, fTuple_dL, fTuple_dT, fLen_dL, fLen_dT, fSum_dL, fCat_dL, fCat_int, fRep_dL, fRep_int, fSub_int, fMod_int, fDiv_int, fLt_int, fLe_int, fGt_int, fGe_int, fNeg_int, fAbs_int, fMax2_int, fMin2_int, fInt_int, fInt_bool, fSl_dL, fSl_dT, fSl3_dL, fSl3_dT, fEq_int, fNe_int, fEq_dL, fNe_dL, fEq_dT, fNe_dT, items_dL, items_dT, wSl, wSl3, wNo, wPart, wSq_eq, sqK_t, sqK_al, sqO_iL, qIx_eq, qIxK, lstAt_eq, lstO_iL, DL.placeOf, T.get, core_d, re_iL, re_d, T.put, List.getElem?_cons_zero, List.getElem?_cons_succ, List.set_cons_zero, List.set_cons_succ, List.length_cons, List.length_nil, iD_len, iE_len, and_true, true_and, Bool.not_true, Bool.not_false, if_true, if_false, Bool.false_eq_true, decide_eq_true_eq, Bool.not_eq_true', decide_eq_false_iff_not, wFor, wRng1, wRng2, wRng3, wName, endsD, startG, List.map_cons, List.map_nil, List.replicate, List.cons_append, List.nil_append, look, wCall, Option.some.injEq, exists_eq_left', wPar, DL.putAt, wSetQ, wApp_eq, appO_iL, isLst_iL, wPop_eq, popO_iL, Nat.zero_le, not_true_eq_false, not_false_eq_true, wLc, wipeG, restG, keepD_none, keepD_d, keepD_iL, items_tup, items_lst, wYes, wTTup, wTCons, wTNil]
    refine ⟨by decide, content_loop _ _ none xs 0 _ fun o => ?_⟩
    simp only [wSeq, wSet, wAsg, wExpr, wRet, wIf, wTest, wNotT, wAndT, wOrT, wIfE, w1, w2, wn, wNil, wCons, wVar, varK_iL, varK_d, wC, wLst, wTup, wQ, qVar_eq, qvO_iL, qvO_d, qC, qI, qNeg, qLen, wNext, takesOf, take_al, take_t, takeO_iL, frzsOf, frzOf, datsOf, datOf, on1, on2, put_t, put_al, putO_iL, toD_iL, toD_d, flat_iL, flat_d, lst_nil, lst_one, lst_iE, lst_iD, nil_dT, nil_dL, fList_dL, fList_dT, fTuple_dL, fTuple_dT, fLen_dL, fLen_dT, fSum_dL, fCat_dL, fCat_int, fRep_dL, fRep_int, fSub_int, fMod_int, fDiv_int, fLt_int, fLe_int, fGt_int, fGe_int, fNeg_int, fAbs_int, fMax2_int, fMin2_int, fInt_int, fInt_bool, fSl_dL, fSl_dT, fSl3_dL, fSl3_dT, fEq_int, fNe_int, fEq_dL, fNe_dL, fEq_dT, fNe_dT, items_dL, items_dT, wSl, wSl3, wNo, wPart, wSq_eq, sqK_t, sqK_al, sqO_iL, qIx_eq, qIxK, lstAt_eq, lstO_iL, DL.placeOf, T.get, core_d, re_iL, re_d, T.put, List.getElem?_cons_zero, List.getElem?_cons_succ, List.set_cons_zero, List.set_cons_succ, List.length_cons, List.length_nil, iD_len, iE_len, and_true, true_and, Bool.not_true, Bool.not_false, if_true, if_false, Bool.false_eq_true, decide_eq_true_eq, Bool.not_eq_true', decide_eq_false_iff_not, wFor, wRng1, wRng2, wRng3, wName, endsD, startG, List.map_cons, List.map_nil, List.replicate, List.cons_append, List.nil_append, look, wCall, Option.some.injEq, exists_eq_left', wPar, DL.putAt, wSetQ, wApp_eq, appO_iL, isLst_iL, wPop_eq, popO_iL, Nat.zero_le, not_true_eq_false, not_false_eq_true, wLc, wipeG, restG, keepD_none, keepD_d, keepD_iL, items_tup, items_lst, wYes, wTTup, wTCons, wTNil]
    rfl
  | t xs =>
    simp only [W_content, S_content, Sq.d]
    rw [wSeq]
    simp only [wSet, wSeq, wSet, wAsg, wExpr, wRet, wIf, wTest, wNotT, wAndT, wOrT, wIfE, w1, w2, wn, wNil, wCons, wVar, varK_iL, varK_d, wC, wLst, wTup, wQ, qVar_eq, qvO_iL, qvO_d, qC, qI, qNeg, qLen, wNext, takesOf, take_al, take_t, takeO_iL, frzsOf, frzOf, datsOf, datOf, on1, on2, put_t, put_al, putO_iL, toD_iL, toD_d, flat_iL, flat_d, lst_nil, lst_one, lst_iE, lst_iD, nil_dT, nil_dL, fList_dL, fList_dT, fTuple_dL, fTuple_dT, fLen_dL, fLen_dT, fSum_dL, fCat_dL, fCat_int, fRep_dL, fRep_int, fSub_int, fMod_int, fDiv_int, fLt_int, fLe_int, fGt_int, fGe_int, fNeg_int, fAbs_int, fMax2_int, fMin2_int, fInt_int, fInt_bool, fSl_dL, fSl_dT, fSl3_dL, fSl3_dT, fEq_int, fNe_int, fEq_dL, fNe_dL, fEq_dT, fNe_dT, items_dL, items_dT, wSl, wSl3, wNo, wPart, wSq_eq, sqK_t, sqK_al, sqO_iL, qIx_eq, qIxK, lstAt_eq, lstO_iL, DL.placeOf, T.get, core_d, re_iL, re_d, T.put, List.getElem?_cons_zero, List.getElem?_cons_succ, List.set_cons_zero, List.set_cons_succ, List.length_cons, List.length_nil, iD_len, iE_len, and_true, true_and, Bool.not_true, Bool.not_false, if_true, if_false, Bool.false_eq_true, decide_eq_true_eq, Bool.not_eq_true', decide_eq_false_iff_not, wFor, wRng1, wRng2, wRng3, wName, endsD, startG, List.map_cons, List.map_nil, List.replicate, List.cons_append, List.nil_append, look, wCall, Option.some.injEq, exists_eq_left', wPar, DL.putAt, wSetQ, wApp_eq, appO_iL, isLst_iL, wPop_eq, popO_iL, Nat.zero_le, not_true_eq_false, not_false_eq_true, wLc, wipeG, restG, keepD_none, keepD_d, keepD_iL, items_tup, items_lst, wYes, wTTup, wTCons, wTNil]
    refine ⟨by decide, content_loop _ _ none xs 0 _ fun o => ?_⟩
    simp only [wSeq, wSet, wAsg, wExpr, wRet, wIf, wTest, wNotT, wAndT, wOrT, wIfE, w1, w2, wn, wNil, wCons, wVar, varK_iL, varK_d, wC, wLst, wTup, wQ, qVar_eq, qvO_iL, qvO_d, qC, qI, qNeg, qLen, wNext, takesOf, take_al, take_t, takeO_iL, frzsOf, frzOf, datsOf, datOf, on1, on2, put_t, put_al, putO_iL, toD_iL, toD_d, flat_iL, flat_d, lst_nil, lst_one, lst_iE, lst_iD, nil_dT, nil_dL, fList_dL, fList_dT, fTuple_dL, fTuple_dT, fLen_dL, fLen_dT, fSum_dL, fCat_dL, fCat_int, fRep_dL, fRep_int, fSub_int, fMod_int, fDiv_int, fLt_int, fLe_int, fGt_int, fGe_int, fNeg_int, fAbs_int, fMax2_int, fMin2_int, fInt_int, fInt_bool, fSl_dL, fSl_dT, fSl3_dL, fSl3_dT, fEq_int, fNe_int, fEq_dL, fNe_dL, fEq_dT, fNe_dT, items_dL, items_dT, wSl, wSl3, wNo, wPart, wSq_eq, sqK_t, sqK_al, sqO_iL, qIx_eq, qIxK, lstAt_eq, lstO_iL, DL.placeOf, T.get, core_d, re_iL, re_d, T.put, List.getElem?_cons_zero, List.getElem?_cons_succ, List.set_cons_zero, List.set_cons_succ, List.length_cons, List.length_nil, iD_len, iE_len, and_true, true_and, Bool.not_true, Bool.not_false, if_true, if_false, Bool.false_eq_true, decide_eq_true_eq, Bool.not_eq_true', decide_eq_false_iff_not, wFor, wRng1, wRng2, wRng3, wName, endsD, startG, List.map_cons, List.map_nil, List.replicate, List.cons_append, List.nil_append, look, wCall, Option.some.injEq, exists_eq_left', wPar, DL.putAt, wSetQ, wApp_eq, appO_iL, isLst_iL, wPop_eq, popO_iL, Nat.zero_le, not_true_eq_false, not_false_eq_true, wLc, wipeG, restG, keepD_none, keepD_d, keepD_iL, items_tup, items_lst, wYes, wTTup, wTCons, wTNil]
    rfl
theorem foldl_gcd_zero : ∀ (xs : List Int) (c : Int), xs.foldl gcdI c = 0 → ∀ x ∈ xs, x = 0
  | [], _, _, _, hx => nomatch hx
  | y :: ys, c, h, x, hx => by
    have key : ∀ (xs : List Int) (c : Int), xs.foldl gcdI c = 0 → c = 0 := by
      intro xs
      induction xs with
      | nil => intro c h; exact h
      | cons z zs ih =>
        intro c h
        have := ih _ h
        unfold gcdI at this
        have := Int.gcd_eq_zero_iff.mp (Int.ofNat_eq_zero.mp this)
        exact this.1
    rw [List.foldl_cons] at h
    rcases List.mem_cons.mp hx with e | hx
    · have := key _ _ h
      unfold gcdI at this
      rw [e]
      exact (Int.gcd_eq_zero_iff.mp (Int.ofNat_eq_zero.mp this)).2
    · exact foldl_gcd_zero ys _ h x hx
theorem WK_lowest : ∀ x, S_lowest.pre x → W_lowest (endsD (S_lowest.post x)) (startG 3 (S_lowest.args x)) := by
  intro (p : List Int) ⟨(hp : p = [] ∨ contI p ≠ 0), (hz : p.length ≤ 1000)⟩
  simp only [W_lowest, S_lowest]
  rw [wSeq]
  simp only [wSeq, wSet, wAsg, wExpr, wRet, wIf, wTest, wNotT, wAndT, wOrT, wIfE, w1, w2, wn, wNil, wCons, wVar, varK_iL, varK_d, wC, wLst, wTup, wQ, qVar_eq, qvO_iL, qvO_d, qC, qI, qNeg, qLen, wNext, takesOf, take_al, take_t, takeO_iL, frzsOf, frzOf, datsOf, datOf, on1, on2, put_t, put_al, putO_iL, toD_iL, toD_d, flat_iL, flat_d, lst_nil, lst_one, lst_iE, lst_iD, nil_dT, nil_dL, fList_dL, fList_dT, fTuple_dL, fTuple_dT, fLen_dL, fLen_dT, fSum_dL, fCat_dL, fCat_int, fRep_dL, fRep_int, fSub_int, fMod_int, fDiv_int, fLt_int, fLe_int, fGt_int, fGe_int, fNeg_int, fAbs_int, fMax2_int, fMin2_int, fInt_int, fInt_bool, fSl_dL, fSl_dT, fSl3_dL, fSl3_dT, fEq_int, fNe_int, fEq_dL, fNe_dL, fEq_dT, fNe_dT, items_dL, items_dT, wSl, wSl3, wNo, wPart, wSq_eq, sqK_t, sqK_al, sqO_iL, qIx_eq, qIxK, lstAt_eq, lstO_iL, DL.placeOf, T.get, core_d, re_iL, re_d, T.put, List.getElem?_cons_zero, List.getElem?_cons_succ, List.set_cons_zero, List.set_cons_succ, List.length_cons, List.length_nil, iD_len, iE_len, and_true, true_and, Bool.not_true, Bool.not_false, if_true, if_false, Bool.false_eq_true, decide_eq_true_eq, Bool.not_eq_true', decide_eq_false_iff_not, wFor, wRng1, wRng2, wRng3, wName, endsD, startG, List.map_cons, List.map_nil, List.replicate, List.cons_append, List.nil_append, look, wCall, Option.some.injEq, exists_eq_left', wPar, DL.putAt, wSetQ, wApp_eq, appO_iL, isLst_iL, wPop_eq, popO_iL, Nat.zero_le, not_true_eq_false, not_false_eq_true, wLc, wipeG, restG, keepD_none, keepD_d, keepD_iL, items_tup, items_lst, wYes, wTTup, wTCons, wTNil]
  by_cases he : p = []
  · subst he
    simp only [wSeq, wSet, wAsg, wExpr, wRet, wIf, wTest, wNotT, wAndT, wOrT, wIfE, w1, w2, wn, wNil, wCons, wVar, varK_iL, varK_d, wC, wLst, wTup, wQ, qVar_eq, qvO_iL, qvO_d, qC, qI, qNeg, qLen, wNext, takesOf, take_al, take_t, takeO_iL, frzsOf, frzOf, datsOf, datOf, on1, on2, put_t, put_al, putO_iL, toD_iL, toD_d, flat_iL, flat_d, lst_nil, lst_one, lst_iE, lst_iD, nil_dT, nil_dL, fList_dL, fList_dT, fTuple_dL, fTuple_dT, fLen_dL, fLen_dT, fSum_dL, fCat_dL, fCat_int, fRep_dL, fRep_int, fSub_int, fMod_int, fDiv_int, fLt_int, fLe_int, fGt_int, fGe_int, fNeg_int, fAbs_int, fMax2_int, fMin2_int, fInt_int, fInt_bool, fSl_dL, fSl_dT, fSl3_dL, fSl3_dT, fEq_int, fNe_int, fEq_dL, fNe_dL, fEq_dT, fNe_dT, items_dL, items_dT, wSl, wSl3, wNo, wPart, wSq_eq, sqK_t, sqK_al, sqO_iL, qIx_eq, qIxK, lstAt_eq, lstO_iL, DL.placeOf, T.get, core_d, re_iL, re_d, T.put, List.getElem?_cons_zero, List.getElem?_cons_succ, List.set_cons_zero, List.set_cons_succ, List.length_cons, List.length_nil, iD_len, iE_len, and_true, true_and, Bool.not_true, Bool.not_false, if_true, if_false, Bool.false_eq_true, decide_eq_true_eq, Bool.not_eq_true', decide_eq_false_iff_not, wFor, wRng1, wRng2, wRng3, wName, endsD, startG, List.map_cons, List.map_nil, List.replicate, List.cons_append, List.nil_append, look, wCall, Option.some.injEq, exists_eq_left', wPar, DL.putAt, wSetQ, wApp_eq, appO_iL, isLst_iL, wPop_eq, popO_iL, Nat.zero_le, not_true_eq_false, not_false_eq_true, wLc, wipeG, restG, keepD_none, keepD_d, keepD_iL, items_tup, items_lst, wYes, wTTup, wTCons, wTNil]
    rfl
  · have hc : contI p ≠ 0 := hp.resolve_left he
    have hl : 0 < p.length := List.length_pos_iff.mpr he
    have elast : at0 p (p.length - 1) = p.getLast?.getD 0 := by
      unfold at0
      rw [List.getLast?_eq_getElem?]
    have fin : ∀ c : Int, c ≠ 0 → c = (if p.getLast?.getD 0 < 0 then 0 - contI p else contI p) → (wRet (wn (wCons (wLc (wSq (wVar 0)) (wName 2) wYes E_lowest_1 [2]) wNil) (on1 fTuple))) (endsD (S_lowest.post p)) [some (.d (dT p)), some (.d (.int c)), none] := by
      intro c hc ec
      simp only [wSeq, wSet, wAsg, wExpr, wRet, wIf, wTest, wNotT, wAndT, wOrT, wIfE, w1, w2, wn, wNil, wCons, wVar, varK_iL, varK_d, wC, wLst, wTup, wQ, qVar_eq, qvO_iL, qvO_d, qC, qI, qNeg, qLen, wNext, takesOf, take_al, take_t, takeO_iL, frzsOf, frzOf, datsOf, datOf, on1, on2, put_t, put_al, putO_iL, toD_iL, toD_d, flat_iL, flat_d, lst_nil, lst_one, lst_iE, lst_iD, nil_dT, nil_dL, fList_dL, fList_dT, fTuple_dL, fTuple_dT, fLen_dL, fLen_dT, fSum_dL, fCat_dL, fCat_int, fRep_dL, fRep_int, fSub_int, fMod_int, fDiv_int, fLt_int, fLe_int, fGt_int, fGe_int, fNeg_int, fAbs_int, fMax2_int, fMin2_int, fInt_int, fInt_bool, fSl_dL, fSl_dT, fSl3_dL, fSl3_dT, fEq_int, fNe_int, fEq_dL, fNe_dL, fEq_dT, fNe_dT, items_dL, items_dT, wSl, wSl3, wNo, wPart, wSq_eq, sqK_t, sqK_al, sqO_iL, qIx_eq, qIxK, lstAt_eq, lstO_iL, DL.placeOf, T.get, core_d, re_iL, re_d, T.put, List.getElem?_cons_zero, List.getElem?_cons_succ, List.set_cons_zero, List.set_cons_succ, List.length_cons, List.length_nil, iD_len, iE_len, and_true, true_and, Bool.not_true, Bool.not_false, if_true, if_false, Bool.false_eq_true, decide_eq_true_eq, Bool.not_eq_true', decide_eq_false_iff_not, wFor, wRng1, wRng2, wRng3, wName, endsD, startG, List.map_cons, List.map_nil, List.replicate, List.cons_append, List.nil_append, look, wCall, Option.some.injEq, exists_eq_left', wPar, DL.putAt, wSetQ, wApp_eq, appO_iL, isLst_iL, wPop_eq, popO_iL, Nat.zero_le, not_true_eq_false, not_false_eq_true, wLc, wipeG, restG, keepD_none, keepD_d, keepD_iL, items_tup, items_lst, wYes, wTTup, wTCons, wTNil]
      refine ⟨?_, ?_⟩
      · exact le1000 hz
      · refine lcW_ints (fun n => n.fdiv c) p (fun n _ R R2 hR => ?_) ?_
        · simp only [E_lowest_1, wSeq, wSet, wAsg, wExpr, wRet, wIf, wTest, wNotT, wAndT, wOrT, wIfE, w1, w2, wn, wNil, wCons, wVar, varK_iL, varK_d, wC, wLst, wTup, wQ, qVar_eq, qvO_iL, qvO_d, qC, qI, qNeg, qLen, wNext, takesOf, take_al, take_t, takeO_iL, frzsOf, frzOf, datsOf, datOf, on1, on2, put_t, put_al, putO_iL, toD_iL, toD_d, flat_iL, flat_d, lst_nil, lst_one, lst_iE, lst_iD, nil_dT, nil_dL, fList_dL, fList_dT, fTuple_dL, fTuple_dT, fLen_dL, fLen_dT, fSum_dL, fCat_dL, fCat_int, fRep_dL, fRep_int, fSub_int, fMod_int, fDiv_int, fLt_int, fLe_int, fGt_int, fGe_int, fNeg_int, fAbs_int, fMax2_int, fMin2_int, fInt_int, fInt_bool, fSl_dL, fSl_dT, fSl3_dL, fSl3_dT, fEq_int, fNe_int, fEq_dL, fNe_dL, fEq_dT, fNe_dT, items_dL, items_dT, wSl, wSl3, wNo, wPart, wSq_eq, sqK_t, sqK_al, sqO_iL, qIx_eq, qIxK, lstAt_eq, lstO_iL, DL.placeOf, T.get, core_d, re_iL, re_d, T.put, List.getElem?_cons_zero, List.getElem?_cons_succ, List.set_cons_zero, List.set_cons_succ, List.length_cons, List.length_nil, iD_len, iE_len, and_true, true_and, Bool.not_true, Bool.not_false, if_true, if_false, Bool.false_eq_true, decide_eq_true_eq, Bool.not_eq_true', decide_eq_false_iff_not, wFor, wRng1, wRng2, wRng3, wName, endsD, startG, List.map_cons, List.map_nil, List.replicate, List.cons_append, List.nil_append, look, wCall, Option.some.injEq, exists_eq_left', wPar, DL.putAt, wSetQ, wApp_eq, appO_iL, isLst_iL, wPop_eq, popO_iL, Nat.zero_le, not_true_eq_false, not_false_eq_true, wLc, wipeG, restG, keepD_none, keepD_d, keepD_iL, items_tup, items_lst, wYes, wTTup, wTCons, wTNil]
          exact ⟨by decide, hc, hR⟩
        · simp only [wSeq, wSet, wAsg, wExpr, wRet, wIf, wTest, wNotT, wAndT, wOrT, wIfE, w1, w2, wn, wNil, wCons, wVar, varK_iL, varK_d, wC, wLst, wTup, wQ, qVar_eq, qvO_iL, qvO_d, qC, qI, qNeg, qLen, wNext, takesOf, take_al, take_t, takeO_iL, frzsOf, frzOf, datsOf, datOf, on1, on2, put_t, put_al, putO_iL, toD_iL, toD_d, flat_iL, flat_d, lst_nil, lst_one, lst_iE, lst_iD, nil_dT, nil_dL, fList_dL, fList_dT, fTuple_dL, fTuple_dT, fLen_dL, fLen_dT, fSum_dL, fCat_dL, fCat_int, fRep_dL, fRep_int, fSub_int, fMod_int, fDiv_int, fLt_int, fLe_int, fGt_int, fGe_int, fNeg_int, fAbs_int, fMax2_int, fMin2_int, fInt_int, fInt_bool, fSl_dL, fSl_dT, fSl3_dL, fSl3_dT, fEq_int, fNe_int, fEq_dL, fNe_dL, fEq_dT, fNe_dT, items_dL, items_dT, wSl, wSl3, wNo, wPart, wSq_eq, sqK_t, sqK_al, sqO_iL, qIx_eq, qIxK, lstAt_eq, lstO_iL, DL.placeOf, T.get, core_d, re_iL, re_d, T.put, List.getElem?_cons_zero, List.getElem?_cons_succ, List.set_cons_zero, List.set_cons_succ, List.length_cons, List.length_nil, iD_len, iE_len, and_true, true_and, Bool.not_true, Bool.not_false, if_true, if_false, Bool.false_eq_true, decide_eq_true_eq, Bool.not_eq_true', decide_eq_false_iff_not, wFor, wRng1, wRng2, wRng3, wName, endsD, startG, List.map_cons, List.map_nil, List.replicate, List.cons_append, List.nil_append, look, wCall, Option.some.injEq, exists_eq_left', wPar, DL.putAt, wSetQ, wApp_eq, appO_iL, isLst_iL, wPop_eq, popO_iL, Nat.zero_le, not_true_eq_false, not_false_eq_true, wLc, wipeG, restG, keepD_none, keepD_d, keepD_iL, items_tup, items_lst, wYes, wTTup, wTCons, wTNil]
          show T.d (dT _) = T.d (dT (lowP p))
          unfold lowP
          rw [if_neg he, ← ec]
    simp only [he, wSeq, wSet, wAsg, wExpr, wRet, wIf, wTest, wNotT, wAndT, wOrT, wIfE, w1, w2, wn, wNil, wCons, wVar, varK_iL, varK_d, wC, wLst, wTup, wQ, qVar_eq, qvO_iL, qvO_d, qC, qI, qNeg, qLen, wNext, takesOf, take_al, take_t, takeO_iL, frzsOf, frzOf, datsOf, datOf, on1, on2, put_t, put_al, putO_iL, toD_iL, toD_d, flat_iL, flat_d, lst_nil, lst_one, lst_iE, lst_iD, nil_dT, nil_dL, fList_dL, fList_dT, fTuple_dL, fTuple_dT, fLen_dL, fLen_dT, fSum_dL, fCat_dL, fCat_int, fRep_dL, fRep_int, fSub_int, fMod_int, fDiv_int, fLt_int, fLe_int, fGt_int, fGe_int, fNeg_int, fAbs_int, fMax2_int, fMin2_int, fInt_int, fInt_bool, fSl_dL, fSl_dT, fSl3_dL, fSl3_dT, fEq_int, fNe_int, fEq_dL, fNe_dL, fEq_dT, fNe_dT, items_dL, items_dT, wSl, wSl3, wNo, wPart, wSq_eq, sqK_t, sqK_al, sqO_iL, qIx_eq, qIxK, lstAt_eq, lstO_iL, DL.placeOf, T.get, core_d, re_iL, re_d, T.put, List.getElem?_cons_zero, List.getElem?_cons_succ, List.set_cons_zero, List.set_cons_succ, List.length_cons, List.length_nil, iD_len, iE_len, and_true, true_and, Bool.not_true, Bool.not_false, if_true, if_false, Bool.false_eq_true, decide_eq_true_eq, Bool.not_eq_true', decide_eq_false_iff_not, wFor, wRng1, wRng2, wRng3, wName, endsD, startG, List.map_cons, List.map_nil, List.replicate, List.cons_append, List.nil_append, look, wCall, Option.some.injEq, exists_eq_left', wPar, DL.putAt, wSetQ, wApp_eq, appO_iL, isLst_iL, wPop_eq, popO_iL, Nat.zero_le, not_true_eq_false, not_false_eq_true, wLc, wipeG, restG, keepD_none, keepD_d, keepD_iL, items_tup, items_lst, wYes, wTTup, wTCons, wTNil]
    refine ⟨.t p, rfl, trivial, fun r hr => ?_⟩
    have hr : r = .d (.int (contI p)) := hr
    subst hr
    simp only [wSeq, wSet, wAsg, wExpr, wRet, wIf, wTest, wNotT, wAndT, wOrT, wIfE, w1, w2, wn, wNil, wCons, wVar, varK_iL, varK_d, wC, wLst, wTup, wQ, qVar_eq, qvO_iL, qvO_d, qC, qI, qNeg, qLen, wNext, takesOf, take_al, take_t, takeO_iL, frzsOf, frzOf, datsOf, datOf, on1, on2, put_t, put_al, putO_iL, toD_iL, toD_d, flat_iL, flat_d, lst_nil, lst_one, lst_iE, lst_iD, nil_dT, nil_dL, fList_dL, fList_dT, fTuple_dL, fTuple_dT, fLen_dL, fLen_dT, fSum_dL, fCat_dL, fCat_int, fRep_dL, fRep_int, fSub_int, fMod_int, fDiv_int, fLt_int, fLe_int, fGt_int, fGe_int, fNeg_int, fAbs_int, fMax2_int, fMin2_int, fInt_int, fInt_bool, fSl_dL, fSl_dT, fSl3_dL, fSl3_dT, fEq_int, fNe_int, fEq_dL, fNe_dL, fEq_dT, fNe_dT, items_dL, items_dT, wSl, wSl3, wNo, wPart, wSq_eq, sqK_t, sqK_al, sqO_iL, qIx_eq, qIxK, lstAt_eq, lstO_iL, DL.placeOf, T.get, core_d, re_iL, re_d, T.put, List.getElem?_cons_zero, List.getElem?_cons_succ, List.set_cons_zero, List.set_cons_succ, List.length_cons, List.length_nil, iD_len, iE_len, and_true, true_and, Bool.not_true, Bool.not_false, if_true, if_false, Bool.false_eq_true, decide_eq_true_eq, Bool.not_eq_true', decide_eq_false_iff_not, wFor, wRng1, wRng2, wRng3, wName, endsD, startG, List.map_cons, List.map_nil, List.replicate, List.cons_append, List.nil_append, look, wCall, Option.some.injEq, exists_eq_left', wPar, DL.putAt, wSetQ, wApp_eq, appO_iL, isLst_iL, wPop_eq, popO_iL, Nat.zero_le, not_true_eq_false, not_false_eq_true, wLc, wipeG, restG, keepD_none, keepD_d, keepD_iL, items_tup, items_lst, wYes, wTTup, wTCons, wTNil, atI_last hl, elast]
    refine ⟨by decide, ?_⟩
    split
    · rename_i hlt
      have f := fin (0 - contI p) (by omega) (by rw [if_pos hlt])
      simp only [wSeq, wSet, wAsg, wExpr, wRet, wIf, wTest, wNotT, wAndT, wOrT, wIfE, w1, w2, wn, wNil, wCons, wVar, varK_iL, varK_d, wC, wLst, wTup, wQ, qVar_eq, qvO_iL, qvO_d, qC, qI, qNeg, qLen, wNext, takesOf, take_al, take_t, takeO_iL, frzsOf, frzOf, datsOf, datOf, on1, on2, put_t, put_al, putO_iL, toD_iL, toD_d, flat_iL, flat_d, lst_nil, lst_one, lst_iE, lst_iD, nil_dT, nil_dL, fList_dL, fList_dT, fTuple_dL, fTuple_dT, fLen_dL, fLen_dT, fSum_dL, fCat_dL, fCat_int, fRep_dL, fRep_int, fSub_int, fMod_int, fDiv_int, fLt_int, fLe_int, fGt_int, fGe_int, fNeg_int, fAbs_int, fMax2_int, fMin2_int, fInt_int, fInt_bool, fSl_dL, fSl_dT, fSl3_dL, fSl3_dT, fEq_int, fNe_int, fEq_dL, fNe_dL, fEq_dT, fNe_dT, items_dL, items_dT, wSl, wSl3, wNo, wPart, wSq_eq, sqK_t, sqK_al, sqO_iL, qIx_eq, qIxK, lstAt_eq, lstO_iL, DL.placeOf, T.get, core_d, re_iL, re_d, T.put, List.getElem?_cons_zero, List.getElem?_cons_succ, List.set_cons_zero, List.set_cons_succ, List.length_cons, List.length_nil, iD_len, iE_len, and_true, true_and, Bool.not_true, Bool.not_false, if_true, if_false, Bool.false_eq_true, decide_eq_true_eq, Bool.not_eq_true', decide_eq_false_iff_not, wFor, wRng1, wRng2, wRng3, wName, endsD, startG, List.map_cons, List.map_nil, List.replicate, List.cons_append, List.nil_append, look, wCall, Option.some.injEq, exists_eq_left', wPar, DL.putAt, wSetQ, wApp_eq, appO_iL, isLst_iL, wPop_eq, popO_iL, Nat.zero_le, not_true_eq_false, not_false_eq_true, wLc, wipeG, restG, keepD_none, keepD_d, keepD_iL, items_tup, items_lst, wYes, wTTup, wTCons, wTNil] at f
      exact ⟨by decide, f⟩
    · rename_i hlt
      have f := fin _ hc (by rw [if_neg hlt])
      simp only [wSeq, wSet, wAsg, wExpr, wRet, wIf, wTest, wNotT, wAndT, wOrT, wIfE, w1, w2, wn, wNil, wCons, wVar, varK_iL, varK_d, wC, wLst, wTup, wQ, qVar_eq, qvO_iL, qvO_d, qC, qI, qNeg, qLen, wNext, takesOf, take_al, take_t, takeO_iL, frzsOf, frzOf, datsOf, datOf, on1, on2, put_t, put_al, putO_iL, toD_iL, toD_d, flat_iL, flat_d, lst_nil, lst_one, lst_iE, lst_iD, nil_dT, nil_dL, fList_dL, fList_dT, fTuple_dL, fTuple_dT, fLen_dL, fLen_dT, fSum_dL, fCat_dL, fCat_int, fRep_dL, fRep_int, fSub_int, fMod_int, fDiv_int, fLt_int, fLe_int, fGt_int, fGe_int, fNeg_int, fAbs_int, fMax2_int, fMin2_int, fInt_int, fInt_bool, fSl_dL, fSl_dT, fSl3_dL, fSl3_dT, fEq_int, fNe_int, fEq_dL, fNe_dL, fEq_dT, fNe_dT, items_dL, items_dT, wSl, wSl3, wNo, wPart, wSq_eq, sqK_t, sqK_al, sqO_iL, qIx_eq, qIxK, lstAt_eq, lstO_iL, DL.placeOf, T.get, core_d, re_iL, re_d, T.put, List.getElem?_cons_zero, List.getElem?_cons_succ, List.set_cons_zero, List.set_cons_succ, List.length_cons, List.length_nil, iD_len, iE_len, and_true, true_and, Bool.not_true, Bool.not_false, if_true, if_false, Bool.false_eq_true, decide_eq_true_eq, Bool.not_eq_true', decide_eq_false_iff_not, wFor, wRng1, wRng2, wRng3, wName, endsD, startG, List.map_cons, List.map_nil, List.replicate, List.cons_append, List.nil_append, look, wCall, Option.some.injEq, exists_eq_left', wPar, DL.putAt, wSetQ, wApp_eq, appO_iL, isLst_iL, wPop_eq, popO_iL, Nat.zero_le, not_true_eq_false, not_false_eq_true, wLc, wipeG, restG, keepD_none, keepD_d, keepD_iL, items_tup, items_lst, wYes, wTTup, wTCons, wTNil] at f
      exact f
end RT
end
section
set_option autoImplicit false
/-! DL17: numbered items, falling ranges; a list less a multiple of another, from a place on. -/
namespace DL
open PySem PySem.Spec PyProof.Rows L2
def enumF : Nat → List Int → List PyData
  | _, [] => []
  | j, b :: q => .tuple [.int (j : Int), .int b] :: enumF (j + 1) q
theorem enumF_get : ∀ (q : List Int) (j i : Nat), (enumF j q)[i]? = (q[i]?).map fun b => PyData.tuple [.int ((j + i : Nat) : Int), .int b]
  | [], _, _ => rfl
  | b :: q, j, 0 => rfl
  | b :: q, j, i + 1 => by
    rw [enumF, List.getElem?_cons_succ, List.getElem?_cons_succ, enumF_get q (j + 1) i, show j + 1 + i = j + (i + 1) by omega]
theorem enumD_iD (q : List Int) : enumD (iD q) = enumF 0 q := by
  refine List.ext_getElem? fun i => ?_
  rw [enumF_get, Nat.zero_add]
  unfold enumD
  rw [List.getElem?_zipWith, iD_len]
  by_cases h : i < q.length
  · rw [List.getElem?_range h, List.getElem?_eq_getElem h, iD_get (List.getElem?_eq_getElem h)]
    rfl
  · rw [List.getElem?_eq_none (by rw [List.length_range]; omega), List.getElem?_eq_none (l := q) (by omega)]
    rfl
theorem rangeDC_succ (lo c : Int) (n : Nat) : rangeDC lo c (n + 1) = .int lo :: rangeDC (lo + c) c n := by
  unfold rangeDC
  rw [List.range_succ_eq_map, List.map_cons, List.map_map]
  congr 1
  · simp
  · refine List.map_congr_left fun i _ => ?_
    show PyData.int (lo + ((i + 1 : Nat) : Int) * c) = PyData.int (lo + c + (i : Int) * c)
    congr 1
    rw [show ((i + 1 : Nat) : Int) = (i : Int) + 1 by omega, Int.add_mul, Int.one_mul]
    omega
theorem rangeD_succ (lo : Int) (n : Nat) : rangeD lo (n + 1) = .int lo :: rangeD (lo + 1) n := by
  unfold rangeD
  rw [List.range_succ_eq_map, List.map_cons, List.map_map]
  congr 1
  · simp
  · refine List.map_congr_left fun i _ => ?_
    show PyData.int (lo + ((i + 1 : Nat) : Int)) = PyData.int (lo + 1 + (i : Int))
    congr 1
    omega
theorem rangeD_zero (lo : Int) : rangeD lo 0 = [] := rfl
theorem rangeDC_zero (lo c : Int) : rangeDC lo c 0 = [] := rfl
def subAt : List Int → Nat → Int → List Int → List Int
  | xs, _, _, [] => xs
  | xs, s, c, b :: q => subAt (xs.set s (at0 xs s - c * b)) (s + 1) c q
theorem subAt_len : ∀ (q xs : List Int) (s : Nat) (c : Int), (subAt xs s c q).length = xs.length
  | [], _, _, _ => rfl
  | b :: q, xs, s, c => by rw [subAt, subAt_len q, List.length_set]
theorem subAt_at : ∀ (q xs : List Int) (s : Nat) (c : Int) (t : Nat), s + q.length ≤ xs.length → at0 (subAt xs s c q) t = at0 xs t - (if s ≤ t ∧ t < s + q.length then c * at0 q (t - s) else 0)
  | [], xs, s, c, t, _ => by
    rw [subAt, if_neg (by rw [List.length_nil]; omega), Int.sub_zero]
  | b :: q, xs, s, c, t, h => by
    rw [List.length_cons] at h
    rw [subAt, subAt_at q _ (s + 1) c t (by rw [List.length_set]; omega), at0_set, List.length_cons]
    by_cases e : s = t
    · subst e
      rw [if_pos ⟨rfl, by omega⟩, if_neg (by omega), if_pos (by omega), Nat.sub_self, at0_zero]
      omega
    · rw [if_neg fun z => e z.1]
      by_cases h2 : s + 1 ≤ t ∧ t < s + 1 + q.length
      · rw [if_pos h2, if_pos (by omega), show t - s = (t - (s + 1)) + 1 by omega, at0_succ]
      · rw [if_neg h2, if_neg (by omega)]
theorem subAt_bd {B C Q M : Nat} {xs q : List Int} {s : Nat} {c : Int} (h1 : Bds B xs) (h2 : Bd C c) (h3 : Bds Q q) (hB : B ≤ M) (hC : C + Q ≤ M) (hl : s + q.length ≤ xs.length) : Bds (M + 1) (subAt xs s c q) := by
  refine Bds.of fun t _ => ?_
  rw [subAt_at q xs s c t hl]
  refine Bd.sub ((h1.at0 t).mono hB) ?_
  split
  · exact (h2.mul (h3.at0 _)).mono hC
  · exact Bd.zero
end DL
end
section
set_option autoImplicit false
namespace RT
open PySem PySem.Spec PyProof.Rows L2 DL
def divS (q : List Int) : Nat → List Int → List Int → List Int × List Int
  | 0, bs, l => (bs, l)
  | n + 1, bs, l => divS q n (bs.set n (at0 l (n + q.length - 1))) (subAt l n (at0 l (n + q.length - 1)) q)
def divP (p q : List Int) : List Int × List Int := divS q (p.length + 1 - q.length) (List.replicate (p.length + 1 - q.length) 0) p
def S_divided : FS := ⟨List Int × List Int, fun x => [dT x.1, dT x.2], fun x => 1 ≤ x.2.length ∧ x.1.length ≤ 100 ∧ x.2.length ≤ 100 ∧ ∃ B Q, Bds B x.1 ∧ Bds Q x.2 ∧ B + (x.1.length + 1 - x.2.length + 1) * (Q + 1) ≤ 134217728,
  fun x r => r = .d (.tuple [dT (trimP (divP x.1 x.2).1), dT (trimP (divP x.1 x.2).2)])⟩
end RT
end
section
/-! printed by gen.py: what each def reads -/
namespace RT
open PySem PySem.Spec PyProof.Rows L2 DL
def B_divided_1 : WS := (wSetQ (w2 (wQ (qIx (qVar 2) (qI (fun i j => i + j) (qVar 4) (qVar 5)))) (w2 (wQ (qIx (qVar 3) (qVar 4))) (wVar 6) fRep) fSub) (qVar 2) (qI (fun i j => i + j) (qVar 4) (qVar 5)))
def B_divided_2 : WS := (wSeq (wSetQ (wQ (qIx (qVar 2) (qI (fun i j => i - j) (qI (fun i j => i + j) (qVar 4) (qLen (qVar 1))) (qC (.int 1))))) (qVar 3) (qVar 4)) (wFor (wEn (wCons (wVar 1) wNil)) (wTTup 2 (wTCons (wName 5) (wTCons (wName 6) wTNil))) B_divided_1))
def W_divided : WS := (wSeq (wSet 2 (wn (wCons (wVar 0) wNil) (on1 fList))) (wSeq (wSet 3 (w2 (wLst (wCons (wC (.int 0)) wNil)) (wn (wCons (wC (.int 0)) (wCons (w2 (w2 (wQ (qLen (qVar 0))) (wQ (qLen (qVar 1))) fSub) (wC (.int 1)) fCat) wNil)) (on2 fMax2)) fRep)) (wSeq (wFor (wRng3 (wCons (w2 (wQ (qLen (qVar 3))) (wC (.int 1)) fSub) (wCons (w1 (wC (.int 1)) fNeg) (wCons (w1 (wC (.int 1)) fNeg) wNil)))) (wName 4) B_divided_2) (wRet (wTup (wCons (wCall S_trimmed (wCons (wVar 3) wNil)) (wCons (wCall S_trimmed (wCons (wVar 2) wNil)) wNil)))))))
end RT
end
section
set_option autoImplicit false
namespace RT
open PySem PySem.Spec PyProof.Rows L2 DL
theorem divS_len (q : List Int) : ∀ (n : Nat) (bs l : List Int), (divS q n bs l).1.length = bs.length ∧ (divS q n bs l).2.length = l.length
  | 0, _, _ => ⟨rfl, rfl⟩
  | n + 1, bs, l => by
    obtain ⟨h1, h2⟩ := divS_len q n (bs.set n (at0 l (n + q.length - 1))) (subAt l n (at0 l (n + q.length - 1)) q)
    rw [divS]
    exact ⟨h1.trans (List.length_set ..), h2.trans (subAt_len ..)⟩
theorem div_sub {p q : PyData} {bs : List Int} {i : Nat} {D : DEnds} {m n : Nat} (hi : i < bs.length) (hm : Bd m (at0 bs i)) (hmn : m + n ≤ 134217728) : ∀ (q' l : List Int) (j : Nat) (oj ob : Option T), Bds n q' → i + j + q'.length ≤ l.length →
    (∀ oj ob, D.nx [some (.d p), some (.d q), some (iL (subAt l (i + j) (at0 bs i) q')), some (iL bs), some (.d (.int i)), oj, ob]) →
    forW (wTTup 2 (wTCons (wName 5) (wTCons (wName 6) wTNil))) B_divided_1 (enumF j q') D [some (.d p), some (.d q), some (iL l), some (iL bs), some (.d (.int i)), oj, ob]
  | [], l, j, oj, ob, _, _, h => h oj ob
  | b :: q', l, j, oj, ob, hq, hl, h => by
    rw [List.length_cons] at hl
    have e1 : ((i : Int) + (j : Int)) = ((i + j : Nat) : Int) := by omega
    rw [enumF, forW]
    simp only [B_divided_1, wSeq, wSet, wAsg, wExpr, wRet, wIf, wTest, wNotT, wAndT, wOrT, wIfE, w1, w2, wn, wNil, wCons, wVar, varK_iL, varK_d, wC, wLst, wTup, wQ, qVar_eq, qvO_iL, qvO_d, qC, qI, qNeg, qLen, wNext, takesOf, take_al, take_t, takeO_iL, frzsOf, frzOf, datsOf, datOf, on1, on2, put_t, put_al, putO_iL, toD_iL, toD_d, flat_iL, flat_d, lst_nil, lst_one, lst_iE, lst_iD, nil_dT, nil_dL, fList_dL, fList_dT, fTuple_dL, fTuple_dT, fLen_dL, fLen_dT, fSum_dL, fCat_dL, fCat_int, fRep_dL, fRep_int, fSub_int, fMod_int, fDiv_int, fLt_int, fLe_int, fGt_int, fGe_int, fNeg_int, fAbs_int, fMax2_int, fMin2_int, fInt_int, fInt_bool, fSl_dL, fSl_dT, fSl3_dL, fSl3_dT, fEq_int, fNe_int, fEq_dL, fNe_dL, fEq_dT, fNe_dT, items_dL, items_dT, wSl, wSl3, wNo, wPart, wSq_eq, sqK_t, sqK_al, sqO_iL, qIx_eq, qIxK, lstAt_eq, lstO_iL, DL.placeOf, T.get, core_d, re_iL, re_d, T.put, List.getElem?_cons_zero, List.getElem?_cons_succ, List.set_cons_zero, List.set_cons_succ, List.length_cons, List.length_nil, iD_len, iE_len, and_true, true_and, Bool.not_true, Bool.not_false, if_true, if_false, Bool.false_eq_true, decide_eq_true_eq, Bool.not_eq_true', decide_eq_false_iff_not, wFor, wRng1, wRng2, wRng3, wName, endsD, startG, List.map_cons, List.map_nil, List.replicate, List.cons_append, List.nil_append, look, wCall, Option.some.injEq, exists_eq_left', wPar, DL.putAt, wSetQ, wApp_eq, appO_iL, isLst_iL, wPop_eq, popO_iL, Nat.zero_le, not_true_eq_false, not_false_eq_true, wLc, wipeG, restG, keepD_none, keepD_d, keepD_iL, items_tup, items_lst, wYes, wTTup, wTCons, wTNil, qIxO_at e1 (show i + j < l.length by omega), qIxO_at rfl hi, ixN_of e1 (show i + j < l.length by omega), iE_set]
    refine ⟨by decide, by decide, mulOk hm hq.head hmn, ?_⟩
    exact div_sub hi hm hmn q' _ (j + 1) _ _ hq.tail (by rw [List.length_set]; omega) (fun oj ob => h oj ob)
theorem div_main {p : PyData} {q : List Int} {D : DEnds} (hq1 : 1 ≤ q.length) {Q : Nat} (hQ : Bds Q q) : ∀ (n : Nat) (bs l : List Int) (B : Nat) (oi oj ob : Option T), Bds B l → B + (n + 1) * (Q + 1) ≤ 134217728 → n ≤ bs.length → (n = 0 ∨ n + q.length ≤ l.length + 1) →
    (∀ oi oj ob, D.nx [some (.d p), some (.d (dT q)), some (iL (divS q n bs l).2), some (iL (divS q n bs l).1), oi, oj, ob]) →
    forW (wName 4) B_divided_2 (rangeDC ((n : Int) - 1) (-1) n) D [some (.d p), some (.d (dT q)), some (iL l), some (iL bs), oi, oj, ob]
  | 0, bs, l, B, oi, oj, ob, _, _, _, _, h => h oi oj ob
  | n + 1, bs, l, B, oi, oj, ob, hB, hs, hn, hl, h => by
    have e0 : (((n + 1 : Nat) : Int) - 1) = (n : Int) := by omega
    have hl : n + 1 + q.length ≤ l.length + 1 := hl.resolve_left (by omega)
    have e1 : ((n : Int) + -1) = (n : Int) - 1 := by omega
    have e2 : ((n : Int) + (q.length : Int) - 1) = ((n + q.length - 1 : Nat) : Int) := by omega
    have hs' : B + Q + 1 + (n + 1) * (Q + 1) ≤ 134217728 := by
      have : (n + 1 + 1) * (Q + 1) = (n + 1) * (Q + 1) + (Q + 1) := Nat.succ_mul ..
      omega
    rw [e0, rangeDC_succ, e1, forW]
    simp only [B_divided_2, wSeq, wSet, wAsg, wExpr, wRet, wIf, wTest, wNotT, wAndT, wOrT, wIfE, w1, w2, wn, wNil, wCons, wVar, varK_iL, varK_d, wC, wLst, wTup, wQ, qVar_eq, qvO_iL, qvO_d, qC, qI, qNeg, qLen, wNext, takesOf, take_al, take_t, takeO_iL, frzsOf, frzOf, datsOf, datOf, on1, on2, put_t, put_al, putO_iL, toD_iL, toD_d, flat_iL, flat_d, lst_nil, lst_one, lst_iE, lst_iD, nil_dT, nil_dL, fList_dL, fList_dT, fTuple_dL, fTuple_dT, fLen_dL, fLen_dT, fSum_dL, fCat_dL, fCat_int, fRep_dL, fRep_int, fSub_int, fMod_int, fDiv_int, fLt_int, fLe_int, fGt_int, fGe_int, fNeg_int, fAbs_int, fMax2_int, fMin2_int, fInt_int, fInt_bool, fSl_dL, fSl_dT, fSl3_dL, fSl3_dT, fEq_int, fNe_int, fEq_dL, fNe_dL, fEq_dT, fNe_dT, items_dL, items_dT, wSl, wSl3, wNo, wPart, wSq_eq, sqK_t, sqK_al, sqO_iL, qIx_eq, qIxK, lstAt_eq, lstO_iL, DL.placeOf, T.get, core_d, re_iL, re_d, T.put, List.getElem?_cons_zero, List.getElem?_cons_succ, List.set_cons_zero, List.set_cons_succ, List.length_cons, List.length_nil, iD_len, iE_len, and_true, true_and, Bool.not_true, Bool.not_false, if_true, if_false, Bool.false_eq_true, decide_eq_true_eq, Bool.not_eq_true', decide_eq_false_iff_not, wFor, wRng1, wRng2, wRng3, wName, endsD, startG, List.map_cons, List.map_nil, List.replicate, List.cons_append, List.nil_append, look, wCall, Option.some.injEq, exists_eq_left', wPar, DL.putAt, wSetQ, wApp_eq, appO_iL, isLst_iL, wPop_eq, popO_iL, Nat.zero_le, not_true_eq_false, not_false_eq_true, wLc, wipeG, restG, keepD_none, keepD_d, keepD_iL, items_tup, items_lst, wYes, wTTup, wTCons, wTNil, qIxO_at e2 (show n + q.length - 1 < l.length by omega), ixN_of (rfl : (n : Int) = (n : Int)) (show n < bs.length by omega), iE_set, wEn, enumD_iD]
    refine ⟨by decide, ?_⟩
    have hat : at0 (bs.set n (at0 l (n + q.length - 1))) n = at0 l (n + q.length - 1) := by
      rw [at0_set, if_pos ⟨rfl, by omega⟩]
    refine div_sub (p := p) (q := dT q) (m := B) (n := Q) (by rw [List.length_set]; omega) (by rw [hat]; exact hB.at0 _) (by omega) q l 0 _ _ hQ (by omega) (fun oj ob => ?_)
    rw [hat, Nat.add_zero]
    exact div_main hq1 hQ n _ _ (B + Q + 1) _ _ _ (subAt_bd hB (hB.at0 _) hQ (by omega) (by omega) (by omega)) hs' (by rw [List.length_set]; omega) (by rw [subAt_len]; omega) h
theorem flat_rep : ∀ n : Nat, (List.replicate n [(0 : Int)]).flatten = List.replicate n 0
  | 0 => rfl
  | n + 1 => by rw [List.replicate_succ, List.flatten_cons, flat_rep n]; rfl
theorem WK_divided : ∀ x, S_divided.pre x → W_divided (endsD (S_divided.post x)) (startG 7 (S_divided.args x)) := by
  rintro ⟨p, q⟩ ⟨h1, h2, h3, B, Q, hB, hQ, hBQ⟩
  have h1 : 1 ≤ q.length := h1
  have h2 : p.length ≤ 100 := h2
  have h3 : q.length ≤ 100 := h3
  simp only [W_divided, S_divided]
  rw [wSeq]
  simp only [wSeq, wSet, wAsg, wExpr, wRet, wIf, wTest, wNotT, wAndT, wOrT, wIfE, w1, w2, wn, wNil, wCons, wVar, varK_iL, varK_d, wC, wLst, wTup, wQ, qVar_eq, qvO_iL, qvO_d, qC, qI, qNeg, qLen, wNext, takesOf, take_al, take_t, takeO_iL, frzsOf, frzOf, datsOf, datOf, on1, on2, put_t, put_al, putO_iL, toD_iL, toD_d, flat_iL, flat_d, lst_nil, lst_one, lst_iE, lst_iD, nil_dT, nil_dL, fList_dL, fList_dT, fTuple_dL, fTuple_dT, fLen_dL, fLen_dT, fSum_dL, fCat_dL, fCat_int, fRep_dL, fRep_int, fSub_int, fMod_int, fDiv_int, fLt_int, fLe_int, fGt_int, fGe_int, fNeg_int, fAbs_int, fMax2_int, fMin2_int, fInt_int, fInt_bool, fSl_dL, fSl_dT, fSl3_dL, fSl3_dT, fEq_int, fNe_int, fEq_dL, fNe_dL, fEq_dT, fNe_dT, items_dL, items_dT, wSl, wSl3, wNo, wPart, wSq_eq, sqK_t, sqK_al, sqO_iL, qIx_eq, qIxK, lstAt_eq, lstO_iL, DL.placeOf, T.get, core_d, re_iL, re_d, T.put, List.getElem?_cons_zero, List.getElem?_cons_succ, List.set_cons_zero, List.set_cons_succ, List.length_cons, List.length_nil, iD_len, iE_len, and_true, true_and, Bool.not_true, Bool.not_false, if_true, if_false, Bool.false_eq_true, decide_eq_true_eq, Bool.not_eq_true', decide_eq_false_iff_not, wFor, wRng1, wRng2, wRng3, wName, endsD, startG, List.map_cons, List.map_nil, List.replicate, List.cons_append, List.nil_append, look, wCall, Option.some.injEq, exists_eq_left', wPar, DL.putAt, wSetQ, wApp_eq, appO_iL, isLst_iL, wPop_eq, popO_iL, Nat.zero_le, not_true_eq_false, not_false_eq_true, wLc, wipeG, restG, keepD_none, keepD_d, keepD_iL, items_tup, items_lst, wYes, wTTup, wTCons, wTNil]
  have eM : max 0 ((p.length : Int) - (q.length : Int) + 1) = ((p.length + 1 - q.length : Nat) : Int) := by omega
  rw [eM]
  simp only [Int.toNat_natCast, flat_rep, List.length_replicate]
  generalize hN : p.length + 1 - q.length = N
  have e2 : ((N : Int) - 1 - -1).toNat = N := by omega
  rw [e2]
  have hN1 : N ≤ 100 := by omega
  have hBQ : B + (p.length + 1 - q.length + 1) * (Q + 1) ≤ 134217728 := hBQ
  rw [hN] at hBQ
  refine ⟨by decide, by decide, by omega, by omega, ?_, by decide, ⟨⟨by omega, by omega⟩, ⟨by decide, by decide⟩⟩, ?_⟩
  · have : (0 + 1) * N ≤ 1000 := by omega
    exact le1000 this
  refine div_main h1 hQ N _ p B _ _ _ hB (by omega) (by rw [List.length_replicate]; omega) (by omega) fun oi oj ob => ?_
  simp only [wSeq, wSet, wAsg, wExpr, wRet, wIf, wTest, wNotT, wAndT, wOrT, wIfE, w1, w2, wn, wNil, wCons, wVar, varK_iL, varK_d, wC, wLst, wTup, wQ, qVar_eq, qvO_iL, qvO_d, qC, qI, qNeg, qLen, wNext, takesOf, take_al, take_t, takeO_iL, frzsOf, frzOf, datsOf, datOf, on1, on2, put_t, put_al, putO_iL, toD_iL, toD_d, flat_iL, flat_d, lst_nil, lst_one, lst_iE, lst_iD, nil_dT, nil_dL, fList_dL, fList_dT, fTuple_dL, fTuple_dT, fLen_dL, fLen_dT, fSum_dL, fCat_dL, fCat_int, fRep_dL, fRep_int, fSub_int, fMod_int, fDiv_int, fLt_int, fLe_int, fGt_int, fGe_int, fNeg_int, fAbs_int, fMax2_int, fMin2_int, fInt_int, fInt_bool, fSl_dL, fSl_dT, fSl3_dL, fSl3_dT, fEq_int, fNe_int, fEq_dL, fNe_dL, fEq_dT, fNe_dT, items_dL, items_dT, wSl, wSl3, wNo, wPart, wSq_eq, sqK_t, sqK_al, sqO_iL, qIx_eq, qIxK, lstAt_eq, lstO_iL, DL.placeOf, T.get, core_d, re_iL, re_d, T.put, List.getElem?_cons_zero, List.getElem?_cons_succ, List.set_cons_zero, List.set_cons_succ, List.length_cons, List.length_nil, iD_len, iE_len, and_true, true_and, Bool.not_true, Bool.not_false, if_true, if_false, Bool.false_eq_true, decide_eq_true_eq, Bool.not_eq_true', decide_eq_false_iff_not, wFor, wRng1, wRng2, wRng3, wName, endsD, startG, List.map_cons, List.map_nil, List.replicate, List.cons_append, List.nil_append, look, wCall, Option.some.injEq, exists_eq_left', wPar, DL.putAt, wSetQ, wApp_eq, appO_iL, isLst_iL, wPop_eq, popO_iL, Nat.zero_le, not_true_eq_false, not_false_eq_true, wLc, wipeG, restG, keepD_none, keepD_d, keepD_iL, items_tup, items_lst, wYes, wTTup, wTCons, wTNil]
  refine ⟨.l _, rfl, trivial, fun r hr => ?_⟩
  have hr : r = _ := hr
  subst hr
  simp only [wSeq, wSet, wAsg, wExpr, wRet, wIf, wTest, wNotT, wAndT, wOrT, wIfE, w1, w2, wn, wNil, wCons, wVar, varK_iL, varK_d, wC, wLst, wTup, wQ, qVar_eq, qvO_iL, qvO_d, qC, qI, qNeg, qLen, wNext, takesOf, take_al, take_t, takeO_iL, frzsOf, frzOf, datsOf, datOf, on1, on2, put_t, put_al, putO_iL, toD_iL, toD_d, flat_iL, flat_d, lst_nil, lst_one, lst_iE, lst_iD, nil_dT, nil_dL, fList_dL, fList_dT, fTuple_dL, fTuple_dT, fLen_dL, fLen_dT, fSum_dL, fCat_dL, fCat_int, fRep_dL, fRep_int, fSub_int, fMod_int, fDiv_int, fLt_int, fLe_int, fGt_int, fGe_int, fNeg_int, fAbs_int, fMax2_int, fMin2_int, fInt_int, fInt_bool, fSl_dL, fSl_dT, fSl3_dL, fSl3_dT, fEq_int, fNe_int, fEq_dL, fNe_dL, fEq_dT, fNe_dT, items_dL, items_dT, wSl, wSl3, wNo, wPart, wSq_eq, sqK_t, sqK_al, sqO_iL, qIx_eq, qIxK, lstAt_eq, lstO_iL, DL.placeOf, T.get, core_d, re_iL, re_d, T.put, List.getElem?_cons_zero, List.getElem?_cons_succ, List.set_cons_zero, List.set_cons_succ, List.length_cons, List.length_nil, iD_len, iE_len, and_true, true_and, Bool.not_true, Bool.not_false, if_true, if_false, Bool.false_eq_true, decide_eq_true_eq, Bool.not_eq_true', decide_eq_false_iff_not, wFor, wRng1, wRng2, wRng3, wName, endsD, startG, List.map_cons, List.map_nil, List.replicate, List.cons_append, List.nil_append, look, wCall, Option.some.injEq, exists_eq_left', wPar, DL.putAt, wSetQ, wApp_eq, appO_iL, isLst_iL, wPop_eq, popO_iL, Nat.zero_le, not_true_eq_false, not_false_eq_true, wLc, wipeG, restG, keepD_none, keepD_d, keepD_iL, items_tup, items_lst, wYes, wTTup, wTCons, wTNil]
  refine ⟨.l _, rfl, trivial, fun r hr => ?_⟩
  have hr : r = _ := hr
  subst hr
  simp only [wSeq, wSet, wAsg, wExpr, wRet, wIf, wTest, wNotT, wAndT, wOrT, wIfE, w1, w2, wn, wNil, wCons, wVar, varK_iL, varK_d, wC, wLst, wTup, wQ, qVar_eq, qvO_iL, qvO_d, qC, qI, qNeg, qLen, wNext, takesOf, take_al, take_t, takeO_iL, frzsOf, frzOf, datsOf, datOf, on1, on2, put_t, put_al, putO_iL, toD_iL, toD_d, flat_iL, flat_d, lst_nil, lst_one, lst_iE, lst_iD, nil_dT, nil_dL, fList_dL, fList_dT, fTuple_dL, fTuple_dT, fLen_dL, fLen_dT, fSum_dL, fCat_dL, fCat_int, fRep_dL, fRep_int, fSub_int, fMod_int, fDiv_int, fLt_int, fLe_int, fGt_int, fGe_int, fNeg_int, fAbs_int, fMax2_int, fMin2_int, fInt_int, fInt_bool, fSl_dL, fSl_dT, fSl3_dL, fSl3_dT, fEq_int, fNe_int, fEq_dL, fNe_dL, fEq_dT, fNe_dT, items_dL, items_dT, wSl, wSl3, wNo, wPart, wSq_eq, sqK_t, sqK_al, sqO_iL, qIx_eq, qIxK, lstAt_eq, lstO_iL, DL.placeOf, T.get, core_d, re_iL, re_d, T.put, List.getElem?_cons_zero, List.getElem?_cons_succ, List.set_cons_zero, List.set_cons_succ, List.length_cons, List.length_nil, iD_len, iE_len, and_true, true_and, Bool.not_true, Bool.not_false, if_true, if_false, Bool.false_eq_true, decide_eq_true_eq, Bool.not_eq_true', decide_eq_false_iff_not, wFor, wRng1, wRng2, wRng3, wName, endsD, startG, List.map_cons, List.map_nil, List.replicate, List.cons_append, List.nil_append, look, wCall, Option.some.injEq, exists_eq_left', wPar, DL.putAt, wSetQ, wApp_eq, appO_iL, isLst_iL, wPop_eq, popO_iL, Nat.zero_le, not_true_eq_false, not_false_eq_true, wLc, wipeG, restG, keepD_none, keepD_d, keepD_iL, items_tup, items_lst, wYes, wTTup, wTCons, wTNil]
  refine ⟨by decide, ?_⟩
  unfold divP
  rw [hN]
  rfl
end RT
end
section
set_option autoImplicit false
namespace RT
open PySem PySem.Spec PyProof.Rows L2 DL
def lastI (xs : List Int) : Int := at0 xs (xs.length - 1)
def lbStep (q l : List Int) : List Int := subAt (l.map fun n => n * lastI q * lastI q) (l.length - q.length) (lastI l * lastI q) q
def lbF (q : List Int) : Nat → List Int → List Int
  | 0, l => l
  | n + 1, l => if q.length ≤ l.length then lbF q n (trimP (lbStep q l)) else l
def ppP (l : List Int) : List Int := if 1 < contI l then l.map fun n => n.fdiv (contI l) else l
def LB (p q : List Int) : List Int := ppP (lbF q p.length p)
def S_left_by : FS := ⟨List Int × List Int, fun x => [dT x.1, dT x.2], fun x => 1 ≤ x.2.length ∧ x.1.length ≤ 100 ∧ x.2.length ≤ 100 ∧ ∃ B Q, Bds B x.1 ∧ Bds Q x.2 ∧ B + (x.1.length + 1 - x.2.length) * (2 * Q + 1) ≤ 134217728,
  fun x r => r = .d (dT (LB x.1 x.2))⟩
def cmF : Nat → List Int → List Int → List Int
  | 0, p, _ => p
  | n + 1, p, q => if q = [] then p else cmF n q (LB p q)
def CM (p q : List Int) : List Int := lowP (cmF (q.length + 1) p q)
/-- bits that the rounds of common may take, from a list of so many -/
def S_common : FS := ⟨List Int × List Int, fun x => [dT x.1, dT x.2], fun x => 1 ≤ x.1.length ∧ x.1.length ≤ 100 ∧ x.2.length < x.1.length ∧ trimP x.1 = x.1 ∧ trimP x.2 = x.2 ∧ ∃ B, Bds B x.1 ∧ Bds B x.2 ∧ (B + 1) * 5 ^ x.1.length ≤ 134217728,
  fun x r => r = .d (dT (CM x.1 x.2))⟩
end RT
end
section
/-! printed by gen.py: what each def reads -/
namespace RT
open PySem PySem.Spec PyProof.Rows L2 DL
def E_left_by_1 : WE := (w2 (wVar 4) (wVar 8) fDiv)
def B_left_by_2 : WS := (wSetQ (w2 (wQ (qIx (qVar 2) (qI (fun i j => i + j) (qVar 5) (qVar 6)))) (w2 (w2 (wVar 3) (wQ (qIx (qVar 1) (qNeg (qC (.int 1))))) fRep) (wVar 7) fRep) fSub) (qVar 2) (qI (fun i j => i + j) (qVar 5) (qVar 6)))
def E_left_by_3 : WE := (w2 (w2 (wVar 4) (wQ (qIx (qVar 1) (qNeg (qC (.int 1))))) fRep) (wQ (qIx (qVar 1) (qNeg (qC (.int 1))))) fRep)
def C_left_by_4 : WT := (wTest (w2 (wQ (qLen (qVar 2))) (wQ (qLen (qVar 1))) fGe))
def B_left_by_5 : WS := (wSeq (wSet 3 (wQ (qIx (qVar 2) (qNeg (qC (.int 1)))))) (wSeq (wSet 2 (wLc (wSq (wVar 2)) (wName 4) wYes E_left_by_3 [4])) (wSeq (wSet 5 (w2 (wQ (qLen (qVar 2))) (wQ (qLen (qVar 1))) fSub)) (wSeq (wFor (wEn (wCons (wVar 1) wNil)) (wTTup 2 (wTCons (wName 6) (wTCons (wName 7) wTNil))) B_left_by_2) (wSet 2 (wn (wCons (wCall S_trimmed (wCons (wVar 2) wNil)) wNil) (on1 fList)))))))
def W_left_by : WS := (wSeq (wSet 2 (wn (wCons (wVar 0) wNil) (on1 fList))) (wSeq (wWhile C_left_by_4 B_left_by_5) (wSeq (wSet 8 (wCall S_content (wCons (wVar 2) wNil))) (wSeq (wIf (wTest (w2 (wVar 8) (wC (.int 1)) fGt)) (wSet 2 (wLc (wSq (wVar 2)) (wName 4) wYes E_left_by_1 [4])) wNext) (wRet (wn (wCons (wVar 2) wNil) (on1 fTuple)))))))
def C_common_1 : WT := (wTest (w2 (wVar 1) (wTup wNil) fNe))
def B_common_2 : WS := (wPar 0 1 (wCons (wVar 1) (wCons (wCall S_left_by (wCons (wVar 0) (wCons (wVar 1) wNil))) wNil)))
def W_common : WS := (wSeq (wWhile C_common_1 B_common_2) (wRet (wCall S_lowest (wCons (wVar 0) wNil))))
end RT
end
section
set_option autoImplicit false
namespace RT
open PySem PySem.Spec PyProof.Rows L2 DL
theorem trimP_len : ∀ xs : List Int, (trimP xs).length ≤ xs.length
  | [] => Nat.le_refl _
  | x :: xs => by
    rw [trimP]
    split
    · exact Nat.zero_le _
    · rw [List.length_cons, List.length_cons]
      have := trimP_len xs
      omega
theorem trimP_sub : ∀ (xs : List Int), ∀ x ∈ trimP xs, x ∈ xs
  | [], x, h => h
  | y :: xs, x, h => by
    rw [trimP] at h
    split at h
    · cases h
    · rcases List.mem_cons.mp h with e | h
      · rw [e]; exact List.mem_cons_self
      · exact List.mem_cons_of_mem _ (trimP_sub xs x h)
theorem trimP_lt {xs : List Int} (h0 : 1 ≤ xs.length) (h : at0 xs (xs.length - 1) = 0) : (trimP xs).length < xs.length := by
  have ne : xs ≠ [] := fun e => by rw [e] at h0; simp at h0
  obtain ⟨ys, z, rfl⟩ : ∃ ys z, xs = ys ++ [z] := ⟨xs.dropLast, xs.getLast ne, (List.dropLast_concat_getLast ne).symm⟩
  have hl : (ys ++ [z]).length = ys.length + 1 := by simp
  rw [hl, Nat.add_sub_cancel, at0_last] at h
  subst h
  rw [trimP_snoc0, hl]
  have := trimP_len ys
  omega
theorem lbStep_len (q l : List Int) : (lbStep q l).length = l.length := by
  unfold lbStep
  rw [subAt_len, List.length_map]
theorem lbStep_last {q l : List Int} (hq : 1 ≤ q.length) (hl : q.length ≤ l.length) : at0 (lbStep q l) ((lbStep q l).length - 1) = 0 := by
  rw [lbStep_len]
  unfold lbStep
  rw [subAt_at _ _ _ _ _ (by rw [List.length_map]; omega), at0_map (by omega), if_pos ⟨by omega, by omega⟩]
  unfold lastI
  rw [show l.length - 1 - (l.length - q.length) = q.length - 1 by omega]
  omega
theorem lbStep_bd {q l : List Int} {B Q : Nat} (hB : Bds B l) (hQ : Bds Q q) (hl : q.length ≤ l.length) : Bds (B + 2 * Q + 1) (lbStep q l) := by
  unfold lbStep
  refine subAt_bd (B := B + 2 * Q) (C := B + Q) (Q := Q) ?_ ?_ hQ (by omega) (by omega) (by rw [List.length_map]; omega)
  · intro x hx
    obtain ⟨n, hn, rfl⟩ := List.mem_map.mp hx
    have := ((hB n hn).mul (hQ.at0 (q.length - 1))).mul (hQ.at0 (q.length - 1))
    exact this.mono (by omega)
  · exact (hB.at0 _).mul (hQ.at0 _)
theorem lb_sub {p : PyData} {q : List Int} {top : Int} {s : Nat} {n8 : Option T} {D : DEnds} {m n : Nat} (hq0 : 0 < q.length) (ht : Bd m top) (hq : Bds n q) (hmn : m + n + n ≤ 134217728) : ∀ (q' l : List Int) (j : Nat) (o4 oj ob : Option T), Bds n q' → s + j + q'.length ≤ l.length →
    (∀ oj ob, D.nx [some (.d p), some (.d (dT q)), some (iL (subAt l (s + j) (top * lastI q) q')), some (.d (.int top)), o4, some (.d (.int s)), oj, ob, n8]) →
    forW (wTTup 2 (wTCons (wName 6) (wTCons (wName 7) wTNil))) B_left_by_2 (enumF j q') D [some (.d p), some (.d (dT q)), some (iL l), some (.d (.int top)), o4, some (.d (.int s)), oj, ob, n8]
  | [], l, j, o4, oj, ob, _, _, h => h oj ob
  | b :: q', l, j, o4, oj, ob, hb, hl, h => by
    rw [List.length_cons] at hl
    have e1 : ((s : Int) + (j : Int)) = ((s + j : Nat) : Int) := by omega
    rw [enumF, forW]
    simp only [B_left_by_2, wSeq, wSet, wAsg, wExpr, wRet, wIf, wTest, wNotT, wAndT, wOrT, wIfE, w1, w2, wn, wNil, wCons, wVar, varK_iL, varK_d, wC, wLst, wTup, wQ, qVar_eq, qvO_iL, qvO_d, qC, qI, qNeg, qLen, wNext, takesOf, take_al, take_t, takeO_iL, frzsOf, frzOf, datsOf, datOf, on1, on2, put_t, put_al, putO_iL, toD_iL, toD_d, flat_iL, flat_d, lst_nil, lst_one, lst_iE, lst_iD, nil_dT, nil_dL, fList_dL, fList_dT, fTuple_dL, fTuple_dT, fLen_dL, fLen_dT, fSum_dL, fCat_dL, fCat_int, fRep_dL, fRep_int, fSub_int, fMod_int, fDiv_int, fLt_int, fLe_int, fGt_int, fGe_int, fNeg_int, fAbs_int, fMax2_int, fMin2_int, fInt_int, fInt_bool, fSl_dL, fSl_dT, fSl3_dL, fSl3_dT, fEq_int, fNe_int, fEq_dL, fNe_dL, fEq_dT, fNe_dT, items_dL, items_dT, wSl, wSl3, wNo, wPart, wSq_eq, sqK_t, sqK_al, sqO_iL, qIx_eq, qIxK, lstAt_eq, lstO_iL, DL.placeOf, T.get, core_d, re_iL, re_d, T.put, List.getElem?_cons_zero, List.getElem?_cons_succ, List.set_cons_zero, List.set_cons_succ, List.length_cons, List.length_nil, iD_len, iE_len, and_true, true_and, Bool.not_true, Bool.not_false, if_true, if_false, Bool.false_eq_true, decide_eq_true_eq, Bool.not_eq_true', decide_eq_false_iff_not, wFor, wRng1, wRng2, wRng3, wName, endsD, startG, List.map_cons, List.map_nil, List.replicate, List.cons_append, List.nil_append, look, wCall, Option.some.injEq, exists_eq_left', wPar, DL.putAt, wSetQ, wApp_eq, appO_iL, isLst_iL, wPop_eq, popO_iL, Nat.zero_le, not_true_eq_false, not_false_eq_true, wLc, wipeG, restG, keepD_none, keepD_d, keepD_iL, items_tup, items_lst, wYes, wTTup, wTCons, wTNil, qIxO_at e1 (show s + j < l.length by omega), atI_last hq0, ixN_of e1 (show s + j < l.length by omega), iE_set]
    refine ⟨by decide, by decide, mulOk ht (hq.at0 _) (by omega), mulOk (ht.mul (hq.at0 _)) hb.head (by omega), ?_⟩
    exact lb_sub hq0 ht hq hmn q' _ (j + 1) o4 _ _ hb.tail (by rw [List.length_set]; omega) h
theorem lb_loop {p : PyData} {q : List Int} {Q : Nat} {D : DEnds} (hq0 : 1 ≤ q.length) (hQ : Bds Q q) : ∀ (n : Nat) (l : List Int) (B : Nat) (o3 o4 o5 o6 o7 o8 : Option T), l.length ≤ n → l.length ≤ 100 → Bds B l → B + (l.length + 1 - q.length) * (2 * Q + 1) ≤ 134217728 →
    (∀ o3 o4 o5 o6 o7, D.nx [some (.d p), some (.d (dT q)), some (iL (lbF q n l)), o3, o4, o5, o6, o7, o8]) →
    whileW C_left_by_4 B_left_by_5 (n + 1) D [some (.d p), some (.d (dT q)), some (iL l), o3, o4, o5, o6, o7, o8]
  | n, l, B, o3, o4, o5, o6, o7, o8, hn, h100, hB, hs, h => by
    by_cases hl : q.length ≤ l.length
    · obtain ⟨n, rfl⟩ : ∃ n', n = n' + 1 := ⟨n - 1, by omega⟩
      have hlt := trimP_lt (xs := lbStep q l) (by rw [lbStep_len]; omega) (lbStep_last hq0 hl)
      rw [lbStep_len] at hlt
      have hmul : (l.length + 1 - q.length) * (2 * Q + 1) = (l.length - q.length) * (2 * Q + 1) + (2 * Q + 1) := by
        rw [show l.length + 1 - q.length = (l.length - q.length) + 1 by omega, Nat.succ_mul]
      have hmul2 : ((trimP (lbStep q l)).length + 1 - q.length) * (2 * Q + 1) ≤ (l.length - q.length) * (2 * Q + 1) := Nat.mul_le_mul_right _ (by omega)
      have hm := fun o3 o4 o5 o6 o7 => lb_loop (p := p) (D := D) hq0 hQ n (trimP (lbStep q l)) (B + 2 * Q + 1) o3 o4 o5 o6 o7 o8 (by omega) (by omega) ((lbStep_bd hB hQ hl).of_sub (trimP_sub _)) (by omega)
        (fun o3 o4 o5 o6 o7 => by
          have := h o3 o4 o5 o6 o7
          rw [lbF, if_pos hl] at this
          exact this)
      rw [whileW]
      have hge : (q.length : Int) ≤ (l.length : Int) := by omega
      simp only [C_left_by_4, B_left_by_5, wSeq, wSet, wAsg, wExpr, wRet, wIf, wTest, wNotT, wAndT, wOrT, wIfE, w1, w2, wn, wNil, wCons, wVar, varK_iL, varK_d, wC, wLst, wTup, wQ, qVar_eq, qvO_iL, qvO_d, qC, qI, qNeg, qLen, wNext, takesOf, take_al, take_t, takeO_iL, frzsOf, frzOf, datsOf, datOf, on1, on2, put_t, put_al, putO_iL, toD_iL, toD_d, flat_iL, flat_d, lst_nil, lst_one, lst_iE, lst_iD, nil_dT, nil_dL, fList_dL, fList_dT, fTuple_dL, fTuple_dT, fLen_dL, fLen_dT, fSum_dL, fCat_dL, fCat_int, fRep_dL, fRep_int, fSub_int, fMod_int, fDiv_int, fLt_int, fLe_int, fGt_int, fGe_int, fNeg_int, fAbs_int, fMax2_int, fMin2_int, fInt_int, fInt_bool, fSl_dL, fSl_dT, fSl3_dL, fSl3_dT, fEq_int, fNe_int, fEq_dL, fNe_dL, fEq_dT, fNe_dT, items_dL, items_dT, wSl, wSl3, wNo, wPart, wSq_eq, sqK_t, sqK_al, sqO_iL, qIx_eq, qIxK, lstAt_eq, lstO_iL, DL.placeOf, T.get, core_d, re_iL, re_d, T.put, List.getElem?_cons_zero, List.getElem?_cons_succ, List.set_cons_zero, List.set_cons_succ, List.length_cons, List.length_nil, iD_len, iE_len, and_true, true_and, Bool.not_true, Bool.not_false, if_true, if_false, Bool.false_eq_true, decide_eq_true_eq, Bool.not_eq_true', decide_eq_false_iff_not, wFor, wRng1, wRng2, wRng3, wName, endsD, startG, List.map_cons, List.map_nil, List.replicate, List.cons_append, List.nil_append, look, wCall, Option.some.injEq, exists_eq_left', wPar, DL.putAt, wSetQ, wApp_eq, appO_iL, isLst_iL, wPop_eq, popO_iL, Nat.zero_le, not_true_eq_false, not_false_eq_true, wLc, wipeG, restG, keepD_none, keepD_d, keepD_iL, items_tup, items_lst, wYes, wTTup, wTCons, wTNil, hge, qIxO_last (show 0 < l.length by omega)]
      refine ⟨by decide, le1000 (by omega), ?_⟩
      refine lcW_ints (fun n => n * lastI q * lastI q) l (fun n hn R R2 hR => ?_) ?_
      · simp only [E_left_by_3, wSeq, wSet, wAsg, wExpr, wRet, wIf, wTest, wNotT, wAndT, wOrT, wIfE, w1, w2, wn, wNil, wCons, wVar, varK_iL, varK_d, wC, wLst, wTup, wQ, qVar_eq, qvO_iL, qvO_d, qC, qI, qNeg, qLen, wNext, takesOf, take_al, take_t, takeO_iL, frzsOf, frzOf, datsOf, datOf, on1, on2, put_t, put_al, putO_iL, toD_iL, toD_d, flat_iL, flat_d, lst_nil, lst_one, lst_iE, lst_iD, nil_dT, nil_dL, fList_dL, fList_dT, fTuple_dL, fTuple_dT, fLen_dL, fLen_dT, fSum_dL, fCat_dL, fCat_int, fRep_dL, fRep_int, fSub_int, fMod_int, fDiv_int, fLt_int, fLe_int, fGt_int, fGe_int, fNeg_int, fAbs_int, fMax2_int, fMin2_int, fInt_int, fInt_bool, fSl_dL, fSl_dT, fSl3_dL, fSl3_dT, fEq_int, fNe_int, fEq_dL, fNe_dL, fEq_dT, fNe_dT, items_dL, items_dT, wSl, wSl3, wNo, wPart, wSq_eq, sqK_t, sqK_al, sqO_iL, qIx_eq, qIxK, lstAt_eq, lstO_iL, DL.placeOf, T.get, core_d, re_iL, re_d, T.put, List.getElem?_cons_zero, List.getElem?_cons_succ, List.set_cons_zero, List.set_cons_succ, List.length_cons, List.length_nil, iD_len, iE_len, and_true, true_and, Bool.not_true, Bool.not_false, if_true, if_false, Bool.false_eq_true, decide_eq_true_eq, Bool.not_eq_true', decide_eq_false_iff_not, wFor, wRng1, wRng2, wRng3, wName, endsD, startG, List.map_cons, List.map_nil, List.replicate, List.cons_append, List.nil_append, look, wCall, Option.some.injEq, exists_eq_left', wPar, DL.putAt, wSetQ, wApp_eq, appO_iL, isLst_iL, wPop_eq, popO_iL, Nat.zero_le, not_true_eq_false, not_false_eq_true, wLc, wipeG, restG, keepD_none, keepD_d, keepD_iL, items_tup, items_lst, wYes, wTTup, wTCons, wTNil, atI_last (show 0 < q.length by omega)]
        refine ⟨by decide, mulOk (hB n hn) (hQ.at0 _) (by omega), mulOk ((hB n hn).mul (hQ.at0 _)) (hQ.at0 _) (by omega), hR⟩
      · have es : ((l.length : Int) - (q.length : Int)) = ((l.length - q.length : Nat) : Int) := by omega
        simp only [wSeq, wSet, wAsg, wExpr, wRet, wIf, wTest, wNotT, wAndT, wOrT, wIfE, w1, w2, wn, wNil, wCons, wVar, varK_iL, varK_d, wC, wLst, wTup, wQ, qVar_eq, qvO_iL, qvO_d, qC, qI, qNeg, qLen, wNext, takesOf, take_al, take_t, takeO_iL, frzsOf, frzOf, datsOf, datOf, on1, on2, put_t, put_al, putO_iL, toD_iL, toD_d, flat_iL, flat_d, lst_nil, lst_one, lst_iE, lst_iD, nil_dT, nil_dL, fList_dL, fList_dT, fTuple_dL, fTuple_dT, fLen_dL, fLen_dT, fSum_dL, fCat_dL, fCat_int, fRep_dL, fRep_int, fSub_int, fMod_int, fDiv_int, fLt_int, fLe_int, fGt_int, fGe_int, fNeg_int, fAbs_int, fMax2_int, fMin2_int, fInt_int, fInt_bool, fSl_dL, fSl_dT, fSl3_dL, fSl3_dT, fEq_int, fNe_int, fEq_dL, fNe_dL, fEq_dT, fNe_dT, items_dL, items_dT, wSl, wSl3, wNo, wPart, wSq_eq, sqK_t, sqK_al, sqO_iL, qIx_eq, qIxK, lstAt_eq, lstO_iL, DL.placeOf, T.get, core_d, re_iL, re_d, T.put, List.getElem?_cons_zero, List.getElem?_cons_succ, List.set_cons_zero, List.set_cons_succ, List.length_cons, List.length_nil, iD_len, iE_len, and_true, true_and, Bool.not_true, Bool.not_false, if_true, if_false, Bool.false_eq_true, decide_eq_true_eq, Bool.not_eq_true', decide_eq_false_iff_not, wFor, wRng1, wRng2, wRng3, wName, endsD, startG, List.map_cons, List.map_nil, List.replicate, List.cons_append, List.nil_append, look, wCall, Option.some.injEq, exists_eq_left', wPar, DL.putAt, wSetQ, wApp_eq, appO_iL, isLst_iL, wPop_eq, popO_iL, Nat.zero_le, not_true_eq_false, not_false_eq_true, wLc, wipeG, restG, keepD_none, keepD_d, keepD_iL, items_tup, items_lst, wYes, wTTup, wTCons, wTNil, List.length_map, wEn, enumD_iD, es]
        refine ⟨by decide, by decide, ?_⟩
        refine lb_sub (m := B) (n := Q) (by omega) (hB.at0 _) hQ (by omega) q _ 0 _ _ _ hQ (by rw [List.length_map]; omega) fun oj ob => ?_
        simp only [wSeq, wSet, wAsg, wExpr, wRet, wIf, wTest, wNotT, wAndT, wOrT, wIfE, w1, w2, wn, wNil, wCons, wVar, varK_iL, varK_d, wC, wLst, wTup, wQ, qVar_eq, qvO_iL, qvO_d, qC, qI, qNeg, qLen, wNext, takesOf, take_al, take_t, takeO_iL, frzsOf, frzOf, datsOf, datOf, on1, on2, put_t, put_al, putO_iL, toD_iL, toD_d, flat_iL, flat_d, lst_nil, lst_one, lst_iE, lst_iD, nil_dT, nil_dL, fList_dL, fList_dT, fTuple_dL, fTuple_dT, fLen_dL, fLen_dT, fSum_dL, fCat_dL, fCat_int, fRep_dL, fRep_int, fSub_int, fMod_int, fDiv_int, fLt_int, fLe_int, fGt_int, fGe_int, fNeg_int, fAbs_int, fMax2_int, fMin2_int, fInt_int, fInt_bool, fSl_dL, fSl_dT, fSl3_dL, fSl3_dT, fEq_int, fNe_int, fEq_dL, fNe_dL, fEq_dT, fNe_dT, items_dL, items_dT, wSl, wSl3, wNo, wPart, wSq_eq, sqK_t, sqK_al, sqO_iL, qIx_eq, qIxK, lstAt_eq, lstO_iL, DL.placeOf, T.get, core_d, re_iL, re_d, T.put, List.getElem?_cons_zero, List.getElem?_cons_succ, List.set_cons_zero, List.set_cons_succ, List.length_cons, List.length_nil, iD_len, iE_len, and_true, true_and, Bool.not_true, Bool.not_false, if_true, if_false, Bool.false_eq_true, decide_eq_true_eq, Bool.not_eq_true', decide_eq_false_iff_not, wFor, wRng1, wRng2, wRng3, wName, endsD, startG, List.map_cons, List.map_nil, List.replicate, List.cons_append, List.nil_append, look, wCall, Option.some.injEq, exists_eq_left', wPar, DL.putAt, wSetQ, wApp_eq, appO_iL, isLst_iL, wPop_eq, popO_iL, Nat.zero_le, not_true_eq_false, not_false_eq_true, wLc, wipeG, restG, keepD_none, keepD_d, keepD_iL, items_tup, items_lst, wYes, wTTup, wTCons, wTNil, Nat.add_zero]
        refine ⟨.l _, rfl, trivial, fun r hr => ?_⟩
        have hr : r = _ := hr
        subst hr
        simp only [wSeq, wSet, wAsg, wExpr, wRet, wIf, wTest, wNotT, wAndT, wOrT, wIfE, w1, w2, wn, wNil, wCons, wVar, varK_iL, varK_d, wC, wLst, wTup, wQ, qVar_eq, qvO_iL, qvO_d, qC, qI, qNeg, qLen, wNext, takesOf, take_al, take_t, takeO_iL, frzsOf, frzOf, datsOf, datOf, on1, on2, put_t, put_al, putO_iL, toD_iL, toD_d, flat_iL, flat_d, lst_nil, lst_one, lst_iE, lst_iD, nil_dT, nil_dL, fList_dL, fList_dT, fTuple_dL, fTuple_dT, fLen_dL, fLen_dT, fSum_dL, fCat_dL, fCat_int, fRep_dL, fRep_int, fSub_int, fMod_int, fDiv_int, fLt_int, fLe_int, fGt_int, fGe_int, fNeg_int, fAbs_int, fMax2_int, fMin2_int, fInt_int, fInt_bool, fSl_dL, fSl_dT, fSl3_dL, fSl3_dT, fEq_int, fNe_int, fEq_dL, fNe_dL, fEq_dT, fNe_dT, items_dL, items_dT, wSl, wSl3, wNo, wPart, wSq_eq, sqK_t, sqK_al, sqO_iL, qIx_eq, qIxK, lstAt_eq, lstO_iL, DL.placeOf, T.get, core_d, re_iL, re_d, T.put, List.getElem?_cons_zero, List.getElem?_cons_succ, List.set_cons_zero, List.set_cons_succ, List.length_cons, List.length_nil, iD_len, iE_len, and_true, true_and, Bool.not_true, Bool.not_false, if_true, if_false, Bool.false_eq_true, decide_eq_true_eq, Bool.not_eq_true', decide_eq_false_iff_not, wFor, wRng1, wRng2, wRng3, wName, endsD, startG, List.map_cons, List.map_nil, List.replicate, List.cons_append, List.nil_append, look, wCall, Option.some.injEq, exists_eq_left', wPar, DL.putAt, wSetQ, wApp_eq, appO_iL, isLst_iL, wPop_eq, popO_iL, Nat.zero_le, not_true_eq_false, not_false_eq_true, wLc, wipeG, restG, keepD_none, keepD_d, keepD_iL, items_tup, items_lst, wYes, wTTup, wTCons, wTNil]
        exact ⟨by decide, hm _ _ _ _ _⟩
    · rw [whileW]
      have hge : ¬ (q.length : Int) ≤ (l.length : Int) := by omega
      simp only [C_left_by_4, wSeq, wSet, wAsg, wExpr, wRet, wIf, wTest, wNotT, wAndT, wOrT, wIfE, w1, w2, wn, wNil, wCons, wVar, varK_iL, varK_d, wC, wLst, wTup, wQ, qVar_eq, qvO_iL, qvO_d, qC, qI, qNeg, qLen, wNext, takesOf, take_al, take_t, takeO_iL, frzsOf, frzOf, datsOf, datOf, on1, on2, put_t, put_al, putO_iL, toD_iL, toD_d, flat_iL, flat_d, lst_nil, lst_one, lst_iE, lst_iD, nil_dT, nil_dL, fList_dL, fList_dT, fTuple_dL, fTuple_dT, fLen_dL, fLen_dT, fSum_dL, fCat_dL, fCat_int, fRep_dL, fRep_int, fSub_int, fMod_int, fDiv_int, fLt_int, fLe_int, fGt_int, fGe_int, fNeg_int, fAbs_int, fMax2_int, fMin2_int, fInt_int, fInt_bool, fSl_dL, fSl_dT, fSl3_dL, fSl3_dT, fEq_int, fNe_int, fEq_dL, fNe_dL, fEq_dT, fNe_dT, items_dL, items_dT, wSl, wSl3, wNo, wPart, wSq_eq, sqK_t, sqK_al, sqO_iL, qIx_eq, qIxK, lstAt_eq, lstO_iL, DL.placeOf, T.get, core_d, re_iL, re_d, T.put, List.getElem?_cons_zero, List.getElem?_cons_succ, List.set_cons_zero, List.set_cons_succ, List.length_cons, List.length_nil, iD_len, iE_len, and_true, true_and, Bool.not_true, Bool.not_false, if_true, if_false, Bool.false_eq_true, decide_eq_true_eq, Bool.not_eq_true', decide_eq_false_iff_not, wFor, wRng1, wRng2, wRng3, wName, endsD, startG, List.map_cons, List.map_nil, List.replicate, List.cons_append, List.nil_append, look, wCall, Option.some.injEq, exists_eq_left', wPar, DL.putAt, wSetQ, wApp_eq, appO_iL, isLst_iL, wPop_eq, popO_iL, Nat.zero_le, not_true_eq_false, not_false_eq_true, wLc, wipeG, restG, keepD_none, keepD_d, keepD_iL, items_tup, items_lst, wYes, wTTup, wTCons, wTNil, hge]
      have e : lbF q n l = l := by
        cases n with
        | zero => rfl
        | succ n => rw [lbF, if_neg hl]
      rw [e] at h
      exact h _ _ _ _ _
theorem lbF_len (q : List Int) : ∀ (n : Nat) (l : List Int), (lbF q n l).length ≤ l.length
  | 0, l => Nat.le_refl _
  | n + 1, l => by
    rw [lbF]
    split
    · refine Nat.le_trans (lbF_len q n _) (Nat.le_trans (trimP_len _) ?_)
      rw [lbStep_len]
      exact Nat.le_refl _
    · exact Nat.le_refl _
theorem WK_left_by : ∀ x, S_left_by.pre x → W_left_by (endsD (S_left_by.post x)) (startG 9 (S_left_by.args x)) := by
  rintro ⟨p, q⟩ ⟨h1, h2, h3, B, Q, hB, hQ, hBQ⟩
  have h1 : 1 ≤ q.length := h1
  have h2 : p.length ≤ 100 := h2
  have h3 : q.length ≤ 100 := h3
  simp only [W_left_by, S_left_by]
  rw [wSeq]
  simp only [wSeq, wSet, wAsg, wExpr, wRet, wIf, wTest, wNotT, wAndT, wOrT, wIfE, w1, w2, wn, wNil, wCons, wVar, varK_iL, varK_d, wC, wLst, wTup, wQ, qVar_eq, qvO_iL, qvO_d, qC, qI, qNeg, qLen, wNext, takesOf, take_al, take_t, takeO_iL, frzsOf, frzOf, datsOf, datOf, on1, on2, put_t, put_al, putO_iL, toD_iL, toD_d, flat_iL, flat_d, lst_nil, lst_one, lst_iE, lst_iD, nil_dT, nil_dL, fList_dL, fList_dT, fTuple_dL, fTuple_dT, fLen_dL, fLen_dT, fSum_dL, fCat_dL, fCat_int, fRep_dL, fRep_int, fSub_int, fMod_int, fDiv_int, fLt_int, fLe_int, fGt_int, fGe_int, fNeg_int, fAbs_int, fMax2_int, fMin2_int, fInt_int, fInt_bool, fSl_dL, fSl_dT, fSl3_dL, fSl3_dT, fEq_int, fNe_int, fEq_dL, fNe_dL, fEq_dT, fNe_dT, items_dL, items_dT, wSl, wSl3, wNo, wPart, wSq_eq, sqK_t, sqK_al, sqO_iL, qIx_eq, qIxK, lstAt_eq, lstO_iL, DL.placeOf, T.get, core_d, re_iL, re_d, T.put, List.getElem?_cons_zero, List.getElem?_cons_succ, List.set_cons_zero, List.set_cons_succ, List.length_cons, List.length_nil, iD_len, iE_len, and_true, true_and, Bool.not_true, Bool.not_false, if_true, if_false, Bool.false_eq_true, decide_eq_true_eq, Bool.not_eq_true', decide_eq_false_iff_not, wFor, wRng1, wRng2, wRng3, wName, endsD, startG, List.map_cons, List.map_nil, List.replicate, List.cons_append, List.nil_append, look, wCall, Option.some.injEq, exists_eq_left', wPar, DL.putAt, wSetQ, wApp_eq, appO_iL, isLst_iL, wPop_eq, popO_iL, Nat.zero_le, not_true_eq_false, not_false_eq_true, wLc, wipeG, restG, keepD_none, keepD_d, keepD_iL, items_tup, items_lst, wYes, wTTup, wTCons, wTNil]
  refine ⟨by decide, p.length + 1, ?_⟩
  refine lb_loop h1 hQ p.length p B none none none none none none (Nat.le_refl _) h2 hB hBQ fun o3 o4 o5 o6 o7 => ?_
  have hL : (lbF q p.length p).length ≤ 100 := Nat.le_trans (lbF_len q _ _) h2
  generalize eL : lbF q p.length p = L at hL
  simp only [wSeq, wSet, wAsg, wExpr, wRet, wIf, wTest, wNotT, wAndT, wOrT, wIfE, w1, w2, wn, wNil, wCons, wVar, varK_iL, varK_d, wC, wLst, wTup, wQ, qVar_eq, qvO_iL, qvO_d, qC, qI, qNeg, qLen, wNext, takesOf, take_al, take_t, takeO_iL, frzsOf, frzOf, datsOf, datOf, on1, on2, put_t, put_al, putO_iL, toD_iL, toD_d, flat_iL, flat_d, lst_nil, lst_one, lst_iE, lst_iD, nil_dT, nil_dL, fList_dL, fList_dT, fTuple_dL, fTuple_dT, fLen_dL, fLen_dT, fSum_dL, fCat_dL, fCat_int, fRep_dL, fRep_int, fSub_int, fMod_int, fDiv_int, fLt_int, fLe_int, fGt_int, fGe_int, fNeg_int, fAbs_int, fMax2_int, fMin2_int, fInt_int, fInt_bool, fSl_dL, fSl_dT, fSl3_dL, fSl3_dT, fEq_int, fNe_int, fEq_dL, fNe_dL, fEq_dT, fNe_dT, items_dL, items_dT, wSl, wSl3, wNo, wPart, wSq_eq, sqK_t, sqK_al, sqO_iL, qIx_eq, qIxK, lstAt_eq, lstO_iL, DL.placeOf, T.get, core_d, re_iL, re_d, T.put, List.getElem?_cons_zero, List.getElem?_cons_succ, List.set_cons_zero, List.set_cons_succ, List.length_cons, List.length_nil, iD_len, iE_len, and_true, true_and, Bool.not_true, Bool.not_false, if_true, if_false, Bool.false_eq_true, decide_eq_true_eq, Bool.not_eq_true', decide_eq_false_iff_not, wFor, wRng1, wRng2, wRng3, wName, endsD, startG, List.map_cons, List.map_nil, List.replicate, List.cons_append, List.nil_append, look, wCall, Option.some.injEq, exists_eq_left', wPar, DL.putAt, wSetQ, wApp_eq, appO_iL, isLst_iL, wPop_eq, popO_iL, Nat.zero_le, not_true_eq_false, not_false_eq_true, wLc, wipeG, restG, keepD_none, keepD_d, keepD_iL, items_tup, items_lst, wYes, wTTup, wTCons, wTNil]
  refine ⟨.l L, rfl, trivial, fun r hr => ?_⟩
  have hr : r = .d (.int (contI L)) := hr
  subst hr
  simp only [wSeq, wSet, wAsg, wExpr, wRet, wIf, wTest, wNotT, wAndT, wOrT, wIfE, w1, w2, wn, wNil, wCons, wVar, varK_iL, varK_d, wC, wLst, wTup, wQ, qVar_eq, qvO_iL, qvO_d, qC, qI, qNeg, qLen, wNext, takesOf, take_al, take_t, takeO_iL, frzsOf, frzOf, datsOf, datOf, on1, on2, put_t, put_al, putO_iL, toD_iL, toD_d, flat_iL, flat_d, lst_nil, lst_one, lst_iE, lst_iD, nil_dT, nil_dL, fList_dL, fList_dT, fTuple_dL, fTuple_dT, fLen_dL, fLen_dT, fSum_dL, fCat_dL, fCat_int, fRep_dL, fRep_int, fSub_int, fMod_int, fDiv_int, fLt_int, fLe_int, fGt_int, fGe_int, fNeg_int, fAbs_int, fMax2_int, fMin2_int, fInt_int, fInt_bool, fSl_dL, fSl_dT, fSl3_dL, fSl3_dT, fEq_int, fNe_int, fEq_dL, fNe_dL, fEq_dT, fNe_dT, items_dL, items_dT, wSl, wSl3, wNo, wPart, wSq_eq, sqK_t, sqK_al, sqO_iL, qIx_eq, qIxK, lstAt_eq, lstO_iL, DL.placeOf, T.get, core_d, re_iL, re_d, T.put, List.getElem?_cons_zero, List.getElem?_cons_succ, List.set_cons_zero, List.set_cons_succ, List.length_cons, List.length_nil, iD_len, iE_len, and_true, true_and, Bool.not_true, Bool.not_false, if_true, if_false, Bool.false_eq_true, decide_eq_true_eq, Bool.not_eq_true', decide_eq_false_iff_not, wFor, wRng1, wRng2, wRng3, wName, endsD, startG, List.map_cons, List.map_nil, List.replicate, List.cons_append, List.nil_append, look, wCall, Option.some.injEq, exists_eq_left', wPar, DL.putAt, wSetQ, wApp_eq, appO_iL, isLst_iL, wPop_eq, popO_iL, Nat.zero_le, not_true_eq_false, not_false_eq_true, wLc, wipeG, restG, keepD_none, keepD_d, keepD_iL, items_tup, items_lst, wYes, wTTup, wTCons, wTNil]
  refine ⟨by decide, ?_⟩
  unfold LB ppP
  rw [eL]
  by_cases h : 1 < contI L
  · rw [if_pos h, if_pos h]
    refine ⟨le1000 (by omega), ?_⟩
    refine lcW_ints (fun n => n.fdiv (contI L)) L (fun n hn R R2 hR => ?_) ?_
    · simp only [E_left_by_1, wSeq, wSet, wAsg, wExpr, wRet, wIf, wTest, wNotT, wAndT, wOrT, wIfE, w1, w2, wn, wNil, wCons, wVar, varK_iL, varK_d, wC, wLst, wTup, wQ, qVar_eq, qvO_iL, qvO_d, qC, qI, qNeg, qLen, wNext, takesOf, take_al, take_t, takeO_iL, frzsOf, frzOf, datsOf, datOf, on1, on2, put_t, put_al, putO_iL, toD_iL, toD_d, flat_iL, flat_d, lst_nil, lst_one, lst_iE, lst_iD, nil_dT, nil_dL, fList_dL, fList_dT, fTuple_dL, fTuple_dT, fLen_dL, fLen_dT, fSum_dL, fCat_dL, fCat_int, fRep_dL, fRep_int, fSub_int, fMod_int, fDiv_int, fLt_int, fLe_int, fGt_int, fGe_int, fNeg_int, fAbs_int, fMax2_int, fMin2_int, fInt_int, fInt_bool, fSl_dL, fSl_dT, fSl3_dL, fSl3_dT, fEq_int, fNe_int, fEq_dL, fNe_dL, fEq_dT, fNe_dT, items_dL, items_dT, wSl, wSl3, wNo, wPart, wSq_eq, sqK_t, sqK_al, sqO_iL, qIx_eq, qIxK, lstAt_eq, lstO_iL, DL.placeOf, T.get, core_d, re_iL, re_d, T.put, List.getElem?_cons_zero, List.getElem?_cons_succ, List.set_cons_zero, List.set_cons_succ, List.length_cons, List.length_nil, iD_len, iE_len, and_true, true_and, Bool.not_true, Bool.not_false, if_true, if_false, Bool.false_eq_true, decide_eq_true_eq, Bool.not_eq_true', decide_eq_false_iff_not, wFor, wRng1, wRng2, wRng3, wName, endsD, startG, List.map_cons, List.map_nil, List.replicate, List.cons_append, List.nil_append, look, wCall, Option.some.injEq, exists_eq_left', wPar, DL.putAt, wSetQ, wApp_eq, appO_iL, isLst_iL, wPop_eq, popO_iL, Nat.zero_le, not_true_eq_false, not_false_eq_true, wLc, wipeG, restG, keepD_none, keepD_d, keepD_iL, items_tup, items_lst, wYes, wTTup, wTCons, wTNil]
      exact ⟨by decide, by omega, hR⟩
    · simp only [wSeq, wSet, wAsg, wExpr, wRet, wIf, wTest, wNotT, wAndT, wOrT, wIfE, w1, w2, wn, wNil, wCons, wVar, varK_iL, varK_d, wC, wLst, wTup, wQ, qVar_eq, qvO_iL, qvO_d, qC, qI, qNeg, qLen, wNext, takesOf, take_al, take_t, takeO_iL, frzsOf, frzOf, datsOf, datOf, on1, on2, put_t, put_al, putO_iL, toD_iL, toD_d, flat_iL, flat_d, lst_nil, lst_one, lst_iE, lst_iD, nil_dT, nil_dL, fList_dL, fList_dT, fTuple_dL, fTuple_dT, fLen_dL, fLen_dT, fSum_dL, fCat_dL, fCat_int, fRep_dL, fRep_int, fSub_int, fMod_int, fDiv_int, fLt_int, fLe_int, fGt_int, fGe_int, fNeg_int, fAbs_int, fMax2_int, fMin2_int, fInt_int, fInt_bool, fSl_dL, fSl_dT, fSl3_dL, fSl3_dT, fEq_int, fNe_int, fEq_dL, fNe_dL, fEq_dT, fNe_dT, items_dL, items_dT, wSl, wSl3, wNo, wPart, wSq_eq, sqK_t, sqK_al, sqO_iL, qIx_eq, qIxK, lstAt_eq, lstO_iL, DL.placeOf, T.get, core_d, re_iL, re_d, T.put, List.getElem?_cons_zero, List.getElem?_cons_succ, List.set_cons_zero, List.set_cons_succ, List.length_cons, List.length_nil, iD_len, iE_len, and_true, true_and, Bool.not_true, Bool.not_false, if_true, if_false, Bool.false_eq_true, decide_eq_true_eq, Bool.not_eq_true', decide_eq_false_iff_not, wFor, wRng1, wRng2, wRng3, wName, endsD, startG, List.map_cons, List.map_nil, List.replicate, List.cons_append, List.nil_append, look, wCall, Option.some.injEq, exists_eq_left', wPar, DL.putAt, wSetQ, wApp_eq, appO_iL, isLst_iL, wPop_eq, popO_iL, Nat.zero_le, not_true_eq_false, not_false_eq_true, wLc, wipeG, restG, keepD_none, keepD_d, keepD_iL, items_tup, items_lst, wYes, wTTup, wTCons, wTNil]
      decide
  · rw [if_neg h, if_neg h]
end RT
end
section
set_option autoImplicit false
namespace RT
open PySem PySem.Spec PyProof.Rows L2 DL
theorem trim_iff {xs : List Int} : trimP xs = xs ↔ (xs = [] ∨ lastI xs ≠ 0) := by
  by_cases ne : xs = []
  · subst ne
    simp [trimP]
  · obtain ⟨ys, z, rfl⟩ : ∃ ys z, xs = ys ++ [z] := ⟨xs.dropLast, xs.getLast ne, (List.dropLast_concat_getLast ne).symm⟩
    have hl : lastI (ys ++ [z]) = z := by
      unfold lastI
      rw [show (ys ++ [z]).length - 1 = ys.length by simp, at0_last]
    rw [hl]
    constructor
    · intro h
      refine .inr fun e => ?_
      subst e
      rw [trimP_snoc0] at h
      have := trimP_len ys
      rw [h] at this
      simp at this
      omega
    · intro h
      exact trimP_snoc (h.resolve_left ne) ys
theorem trim_idem : ∀ xs : List Int, trimP (trimP xs) = trimP xs
  | [] => rfl
  | x :: xs => by
    rw [trimP]
    split
    · rfl
    · rename_i h
      rw [trimP, trim_idem xs, if_neg h]
theorem foldl_dvd : ∀ (xs : List Int) (c : Int), xs.foldl gcdI c ∣ c ∧ ∀ x ∈ xs, xs.foldl gcdI c ∣ x
  | [], c => ⟨Int.dvd_refl c, fun x hx => nomatch hx⟩
  | y :: ys, c => by
    obtain ⟨h1, h2⟩ := foldl_dvd ys (gcdI c y)
    rw [List.foldl_cons]
    refine ⟨Int.dvd_trans h1 (Int.gcd_dvd_left ..), fun x hx => ?_⟩
    rcases List.mem_cons.mp hx with e | hx
    · rw [e]; exact Int.dvd_trans h1 (Int.gcd_dvd_right ..)
    · exact h2 x hx
theorem cont_dvd {xs : List Int} {x : Int} (h : x ∈ xs) : contI xs ∣ x := (foldl_dvd xs 0).2 x h
theorem cont_nonneg (xs : List Int) : 0 ≤ contI xs := by
  have key : ∀ (xs : List Int) (c : Int), 0 ≤ c → 0 ≤ xs.foldl gcdI c := by
    intro xs
    induction xs with
    | nil => intro c h; exact h
    | cons x xs ih => intro c h; exact ih _ (Int.natCast_nonneg _)
  exact key xs 0 (Int.le_refl 0)
theorem cont_ne {xs : List Int} (h : lastI xs ≠ 0) : contI xs ≠ 0 := fun e => by
  have hl : 0 < xs.length := by
    refine Nat.pos_of_ne_zero fun e2 => h ?_
    unfold lastI
    exact at0_out (by omega)
  exact h (foldl_gcd_zero xs 0 e _ (at0_mem (by omega)))
theorem fdiv_ne {a c : Int} (h : c ∣ a) (ha : a ≠ 0) : a.fdiv c ≠ 0 := by
  obtain ⟨k, rfl⟩ := h
  have hc : c ≠ 0 := fun e => ha (by rw [e, Int.zero_mul])
  rw [Int.mul_fdiv_cancel_left _ hc]
  exact fun e => ha (by rw [e, Int.mul_zero])
theorem ppP_len (l : List Int) : (ppP l).length = l.length := by
  unfold ppP
  split
  · rw [List.length_map]
  · rfl
theorem ppP_trim {l : List Int} (h : trimP l = l) : trimP (ppP l) = ppP l := by
  rw [trim_iff] at h ⊢
  rcases h with h | h
  · subst h
    exact .inl rfl
  · right
    have hl : 0 < l.length := by
      refine Nat.pos_of_ne_zero fun e2 => h ?_
      unfold lastI
      exact at0_out (by omega)
    unfold lastI
    rw [ppP_len]
    unfold ppP
    split
    · rw [at0_map (by omega)]
      exact fdiv_ne (cont_dvd (at0_mem (by omega))) h
    · exact h
theorem ppP_bd {B : Nat} {l : List Int} (h : Bds B l) : Bds B (ppP l) := by
  unfold ppP
  split
  · rename_i hc
    intro x hx
    obtain ⟨n, hn, rfl⟩ := List.mem_map.mp hx
    have := h n hn
    unfold Bd at *
    rw [Int.fdiv_eq_ediv_of_nonneg _ (by omega)]
    exact Nat.lt_of_le_of_lt (Int.natAbs_ediv_le_natAbs ..) this
  · exact h
theorem lbF_lt {q : List Int} (hq : 1 ≤ q.length) : ∀ (n : Nat) (l : List Int), l.length ≤ n → (lbF q n l).length < q.length
  | 0, l, h => by
    rw [lbF]
    omega
  | n + 1, l, h => by
    rw [lbF]
    split
    · rename_i hl
      have := trimP_lt (xs := lbStep q l) (by rw [lbStep_len]; omega) (lbStep_last hq hl)
      rw [lbStep_len] at this
      exact lbF_lt hq n _ (by omega)
    · omega
theorem lbF_trim {q : List Int} : ∀ (n : Nat) (l : List Int), trimP l = l → trimP (lbF q n l) = lbF q n l
  | 0, l, h => h
  | n + 1, l, h => by
    rw [lbF]
    split
    · exact lbF_trim n _ (trim_idem _)
    · exact h
theorem lbF_bd {q : List Int} {Q : Nat} (hq : 1 ≤ q.length) (hQ : Bds Q q) : ∀ (n : Nat) (l : List Int) (B : Nat), Bds B l → Bds (B + (l.length + 1 - q.length) * (2 * Q + 1)) (lbF q n l)
  | 0, l, B, h => h.mono (by omega)
  | n + 1, l, B, h => by
    rw [lbF]
    split
    · rename_i hl
      have h1 := lbF_bd hq hQ n (trimP (lbStep q l)) (B + 2 * Q + 1) ((lbStep_bd h hQ hl).of_sub (trimP_sub _))
      have hlt := trimP_lt (xs := lbStep q l) (by rw [lbStep_len]; omega) (lbStep_last hq hl)
      rw [lbStep_len] at hlt
      have hmul : (l.length + 1 - q.length) * (2 * Q + 1) = (l.length - q.length) * (2 * Q + 1) + (2 * Q + 1) := by
        rw [show l.length + 1 - q.length = (l.length - q.length) + 1 by omega, Nat.succ_mul]
      have hmul2 : ((trimP (lbStep q l)).length + 1 - q.length) * (2 * Q + 1) ≤ (l.length - q.length) * (2 * Q + 1) := Nat.mul_le_mul_right _ (by omega)
      exact h1.mono (by omega)
    · exact h.mono (by omega)
theorem LB_bd {p q : List Int} {B Q : Nat} (hq : 1 ≤ q.length) (hB : Bds B p) (hQ : Bds Q q) : Bds (B + (p.length + 1 - q.length) * (2 * Q + 1)) (LB p q) := ppP_bd (lbF_bd hq hQ _ _ _ hB)
theorem LB_len {p q : List Int} (hq : 1 ≤ q.length) : (LB p q).length < q.length := by
  unfold LB
  rw [ppP_len]
  exact lbF_lt hq _ _ (Nat.le_refl _)
theorem LB_trim {p q : List Int} (h : trimP p = p) : trimP (LB p q) = LB p q := ppP_trim (lbF_trim _ _ h)
theorem five_pow : ∀ d : Nat, 2 * (d + 1) + 3 ≤ 5 ^ (d + 1)
  | 0 => by decide
  | d + 1 => by
    have := five_pow d
    rw [Nat.pow_succ]
    omega
theorem room_step {Z a b : Nat} (h : b < a) (hz : (Z + 1) * 5 ^ a ≤ 134217728) : Z + (a + 1 - b) * (2 * Z + 1) ≤ 134217728 ∧ (Z + (a + 1 - b) * (2 * Z + 1) + 1) * 5 ^ b ≤ 134217728 := by
  obtain ⟨d, rfl⟩ : ∃ d, a = b + (d + 1) := ⟨a - b - 1, by omega⟩
  have h5 := five_pow d
  have e1 : Z + (b + (d + 1) + 1 - b) * (2 * Z + 1) + 1 ≤ (Z + 1) * 5 ^ (d + 1) := by
    rw [show b + (d + 1) + 1 - b = d + 2 by omega]
    have : (Z + 1) * (2 * (d + 1) + 3) ≤ (Z + 1) * 5 ^ (d + 1) := Nat.mul_le_mul_left _ h5
    have e : (Z + 1) * (2 * (d + 1) + 3) = 2 * (Z * d) + 5 * Z + (2 * d + 5) := by
      rw [show 2 * (d + 1) + 3 = 2 * d + 5 by omega, Nat.add_mul, Nat.mul_add, Nat.mul_left_comm Z 2 d]
      omega
    have e2 : (d + 2) * (2 * Z + 1) = 2 * (Z * d) + 4 * Z + (d + 2) := by
      rw [Nat.add_mul, Nat.mul_add, Nat.mul_left_comm d 2 Z, Nat.mul_comm d Z]
      omega
    omega
  have e2 : (Z + (b + (d + 1) + 1 - b) * (2 * Z + 1) + 1) * 5 ^ b ≤ (Z + 1) * 5 ^ (b + (d + 1)) := by
    rw [Nat.add_comm b (d + 1), Nat.pow_add 5 (d + 1) b, ← Nat.mul_assoc]
    rw [Nat.add_comm b (d + 1)] at e1
    exact Nat.mul_le_mul_right _ e1
  refine ⟨?_, Nat.le_trans e2 hz⟩
  have : 1 ≤ 5 ^ b := Nat.pow_pos (by decide)
  have h3 : (Z + (b + (d + 1) + 1 - b) * (2 * Z + 1) + 1) * 1 ≤ (Z + (b + (d + 1) + 1 - b) * (2 * Z + 1) + 1) * 5 ^ b := Nat.mul_le_mul_left _ this
  omega
/-- what stands behind the rounds of common -/
theorem cmF_keeps : ∀ (n : Nat) (p q : List Int) (Z : Nat), q.length < n → 1 ≤ p.length → p.length ≤ 100 → q.length < p.length → trimP p = p → trimP q = q → Bds Z p → Bds Z q → (Z + 1) * 5 ^ p.length ≤ 134217728 →
    1 ≤ (cmF n p q).length ∧ (cmF n p q).length ≤ p.length ∧ trimP (cmF n p q) = cmF n p q ∧ ∃ Y, Bds Y (cmF n p q) ∧ (Y + 1) * 5 ^ (cmF n p q).length ≤ 134217728
  | 0, _, _, _, h, _, _, _, _, _, _, _, _ => by omega
  | n + 1, p, q, Z, hn, h1, h100, hlt, tp, tq, hB, hQ, hz => by
    rw [cmF]
    split
    · exact ⟨h1, Nat.le_refl _, tp, Z, hB, hz⟩
    · rename_i ne
      have hq : 1 ≤ q.length := List.length_pos_iff.mpr ne
      obtain ⟨r1, r2⟩ := room_step hlt hz
      have hl := LB_len (p := p) hq
      obtain ⟨g1, g2, g3, g4⟩ := cmF_keeps n q (LB p q) _ (by omega) hq (by omega) hl tq (LB_trim tp) (hQ.mono (by omega)) (LB_bd hq hB hQ) r2
      exact ⟨g1, by omega, g3, g4⟩
theorem cm_loop {D : DEnds} : ∀ (n : Nat) (p q : List Int) (Z : Nat), q.length < n → 1 ≤ p.length → p.length ≤ 100 → q.length < p.length → trimP p = p → trimP q = q → Bds Z p → Bds Z q → (Z + 1) * 5 ^ p.length ≤ 134217728 →
    (∀ q', D.nx [some (.d (dT (cmF n p q))), some (.d (dT q'))]) → whileW C_common_1 B_common_2 n D [some (.d (dT p)), some (.d (dT q))]
  | 0, _, _, _, h, _, _, _, _, _, _, _, _, _ => by omega
  | n + 1, p, q, Z, hn, h1, h100, hlt, tp, tq, hB, hQ, hz, h => by
    rw [whileW]
    rw [cmF] at h
    by_cases ne : q = []
    · rw [if_pos ne] at h
      subst ne
      simp only [C_common_1, wSeq, wSet, wAsg, wExpr, wRet, wIf, wTest, wNotT, wAndT, wOrT, wIfE, w1, w2, wn, wNil, wCons, wVar, varK_iL, varK_d, wC, wLst, wTup, wQ, qVar_eq, qvO_iL, qvO_d, qC, qI, qNeg, qLen, wNext, takesOf, take_al, take_t, takeO_iL, frzsOf, frzOf, datsOf, datOf, on1, on2, put_t, put_al, putO_iL, toD_iL, toD_d, flat_iL, flat_d, lst_nil, lst_one, lst_iE, lst_iD, nil_dT, nil_dL, fList_dL, fList_dT, fTuple_dL, fTuple_dT, fLen_dL, fLen_dT, fSum_dL, fCat_dL, fCat_int, fRep_dL, fRep_int, fSub_int, fMod_int, fDiv_int, fLt_int, fLe_int, fGt_int, fGe_int, fNeg_int, fAbs_int, fMax2_int, fMin2_int, fInt_int, fInt_bool, fSl_dL, fSl_dT, fSl3_dL, fSl3_dT, fEq_int, fNe_int, fEq_dL, fNe_dL, fEq_dT, fNe_dT, items_dL, items_dT, wSl, wSl3, wNo, wPart, wSq_eq, sqK_t, sqK_al, sqO_iL, qIx_eq, qIxK, lstAt_eq, lstO_iL, DL.placeOf, T.get, core_d, re_iL, re_d, T.put, List.getElem?_cons_zero, List.getElem?_cons_succ, List.set_cons_zero, List.set_cons_succ, List.length_cons, List.length_nil, iD_len, iE_len, and_true, true_and, Bool.not_true, Bool.not_false, if_true, if_false, Bool.false_eq_true, decide_eq_true_eq, Bool.not_eq_true', decide_eq_false_iff_not, wFor, wRng1, wRng2, wRng3, wName, endsD, startG, List.map_cons, List.map_nil, List.replicate, List.cons_append, List.nil_append, look, wCall, Option.some.injEq, exists_eq_left', wPar, DL.putAt, wSetQ, wApp_eq, appO_iL, isLst_iL, wPop_eq, popO_iL, Nat.zero_le, not_true_eq_false, not_false_eq_true, wLc, wipeG, restG, keepD_none, keepD_d, keepD_iL, items_tup, items_lst, wYes, wTTup, wTCons, wTNil]
      exact h []
    · rw [if_neg ne] at h
      have hq : 1 ≤ q.length := List.length_pos_iff.mpr ne
      obtain ⟨r1, r2⟩ := room_step hlt hz
      have hl := LB_len (p := p) hq
      simp only [C_common_1, B_common_2, wSeq, wSet, wAsg, wExpr, wRet, wIf, wTest, wNotT, wAndT, wOrT, wIfE, w1, w2, wn, wNil, wCons, wVar, varK_iL, varK_d, wC, wLst, wTup, wQ, qVar_eq, qvO_iL, qvO_d, qC, qI, qNeg, qLen, wNext, takesOf, take_al, take_t, takeO_iL, frzsOf, frzOf, datsOf, datOf, on1, on2, put_t, put_al, putO_iL, toD_iL, toD_d, flat_iL, flat_d, lst_nil, lst_one, lst_iE, lst_iD, nil_dT, nil_dL, fList_dL, fList_dT, fTuple_dL, fTuple_dT, fLen_dL, fLen_dT, fSum_dL, fCat_dL, fCat_int, fRep_dL, fRep_int, fSub_int, fMod_int, fDiv_int, fLt_int, fLe_int, fGt_int, fGe_int, fNeg_int, fAbs_int, fMax2_int, fMin2_int, fInt_int, fInt_bool, fSl_dL, fSl_dT, fSl3_dL, fSl3_dT, fEq_int, fNe_int, fEq_dL, fNe_dL, fEq_dT, fNe_dT, items_dL, items_dT, wSl, wSl3, wNo, wPart, wSq_eq, sqK_t, sqK_al, sqO_iL, qIx_eq, qIxK, lstAt_eq, lstO_iL, DL.placeOf, T.get, core_d, re_iL, re_d, T.put, List.getElem?_cons_zero, List.getElem?_cons_succ, List.set_cons_zero, List.set_cons_succ, List.length_cons, List.length_nil, iD_len, iE_len, and_true, true_and, Bool.not_true, Bool.not_false, if_true, if_false, Bool.false_eq_true, decide_eq_true_eq, Bool.not_eq_true', decide_eq_false_iff_not, wFor, wRng1, wRng2, wRng3, wName, endsD, startG, List.map_cons, List.map_nil, List.replicate, List.cons_append, List.nil_append, look, wCall, Option.some.injEq, exists_eq_left', wPar, DL.putAt, wSetQ, wApp_eq, appO_iL, isLst_iL, wPop_eq, popO_iL, Nat.zero_le, not_true_eq_false, not_false_eq_true, wLc, wipeG, restG, keepD_none, keepD_d, keepD_iL, items_tup, items_lst, wYes, wTTup, wTCons, wTNil, ne]
      refine ⟨(p, q), rfl, ⟨hq, h100, by show q.length ≤ 100; omega, Z, Z, hB, hQ, r1⟩, fun r hr => ?_⟩
      have hr : r = _ := hr
      subst hr
      simp only [wSeq, wSet, wAsg, wExpr, wRet, wIf, wTest, wNotT, wAndT, wOrT, wIfE, w1, w2, wn, wNil, wCons, wVar, varK_iL, varK_d, wC, wLst, wTup, wQ, qVar_eq, qvO_iL, qvO_d, qC, qI, qNeg, qLen, wNext, takesOf, take_al, take_t, takeO_iL, frzsOf, frzOf, datsOf, datOf, on1, on2, put_t, put_al, putO_iL, toD_iL, toD_d, flat_iL, flat_d, lst_nil, lst_one, lst_iE, lst_iD, nil_dT, nil_dL, fList_dL, fList_dT, fTuple_dL, fTuple_dT, fLen_dL, fLen_dT, fSum_dL, fCat_dL, fCat_int, fRep_dL, fRep_int, fSub_int, fMod_int, fDiv_int, fLt_int, fLe_int, fGt_int, fGe_int, fNeg_int, fAbs_int, fMax2_int, fMin2_int, fInt_int, fInt_bool, fSl_dL, fSl_dT, fSl3_dL, fSl3_dT, fEq_int, fNe_int, fEq_dL, fNe_dL, fEq_dT, fNe_dT, items_dL, items_dT, wSl, wSl3, wNo, wPart, wSq_eq, sqK_t, sqK_al, sqO_iL, qIx_eq, qIxK, lstAt_eq, lstO_iL, DL.placeOf, T.get, core_d, re_iL, re_d, T.put, List.getElem?_cons_zero, List.getElem?_cons_succ, List.set_cons_zero, List.set_cons_succ, List.length_cons, List.length_nil, iD_len, iE_len, and_true, true_and, Bool.not_true, Bool.not_false, if_true, if_false, Bool.false_eq_true, decide_eq_true_eq, Bool.not_eq_true', decide_eq_false_iff_not, wFor, wRng1, wRng2, wRng3, wName, endsD, startG, List.map_cons, List.map_nil, List.replicate, List.cons_append, List.nil_append, look, wCall, Option.some.injEq, exists_eq_left', wPar, DL.putAt, wSetQ, wApp_eq, appO_iL, isLst_iL, wPop_eq, popO_iL, Nat.zero_le, not_true_eq_false, not_false_eq_true, wLc, wipeG, restG, keepD_none, keepD_d, keepD_iL, items_tup, items_lst, wYes, wTTup, wTCons, wTNil]
      exact ⟨by decide, by decide, cm_loop n q (LB p q) _ (by omega) hq (by omega) hl tq (LB_trim tp) (hQ.mono (by omega)) (LB_bd hq hB hQ) r2 h⟩
theorem WK_common : ∀ x, S_common.pre x → W_common (endsD (S_common.post x)) (startG 2 (S_common.args x)) := by
  rintro ⟨p, q⟩ ⟨h1, h100, hlt, tp, tq, B, hB, hQ, hz⟩
  have h1 : 1 ≤ p.length := h1
  have h100 : p.length ≤ 100 := h100
  have hlt : q.length < p.length := hlt
  simp only [W_common, S_common]
  rw [wSeq]
  simp only [wWhile, wSeq, wSet, wAsg, wExpr, wRet, wIf, wTest, wNotT, wAndT, wOrT, wIfE, w1, w2, wn, wNil, wCons, wVar, varK_iL, varK_d, wC, wLst, wTup, wQ, qVar_eq, qvO_iL, qvO_d, qC, qI, qNeg, qLen, wNext, takesOf, take_al, take_t, takeO_iL, frzsOf, frzOf, datsOf, datOf, on1, on2, put_t, put_al, putO_iL, toD_iL, toD_d, flat_iL, flat_d, lst_nil, lst_one, lst_iE, lst_iD, nil_dT, nil_dL, fList_dL, fList_dT, fTuple_dL, fTuple_dT, fLen_dL, fLen_dT, fSum_dL, fCat_dL, fCat_int, fRep_dL, fRep_int, fSub_int, fMod_int, fDiv_int, fLt_int, fLe_int, fGt_int, fGe_int, fNeg_int, fAbs_int, fMax2_int, fMin2_int, fInt_int, fInt_bool, fSl_dL, fSl_dT, fSl3_dL, fSl3_dT, fEq_int, fNe_int, fEq_dL, fNe_dL, fEq_dT, fNe_dT, items_dL, items_dT, wSl, wSl3, wNo, wPart, wSq_eq, sqK_t, sqK_al, sqO_iL, qIx_eq, qIxK, lstAt_eq, lstO_iL, DL.placeOf, T.get, core_d, re_iL, re_d, T.put, List.getElem?_cons_zero, List.getElem?_cons_succ, List.set_cons_zero, List.set_cons_succ, List.length_cons, List.length_nil, iD_len, iE_len, and_true, true_and, Bool.not_true, Bool.not_false, if_true, if_false, Bool.false_eq_true, decide_eq_true_eq, Bool.not_eq_true', decide_eq_false_iff_not, wFor, wRng1, wRng2, wRng3, wName, endsD, startG, List.map_cons, List.map_nil, List.replicate, List.cons_append, List.nil_append, look, wCall, Option.some.injEq, exists_eq_left', wPar, DL.putAt, wSetQ, wApp_eq, appO_iL, isLst_iL, wPop_eq, popO_iL, Nat.zero_le, not_true_eq_false, not_false_eq_true, wLc, wipeG, restG, keepD_none, keepD_d, keepD_iL, items_tup, items_lst, wYes, wTTup, wTCons, wTNil]
  refine ⟨q.length + 1, cm_loop (q.length + 1) p q B (by omega) h1 h100 hlt tp tq hB hQ hz fun q' => ?_⟩
  obtain ⟨g1, g2, g3, g4⟩ := cmF_keeps (q.length + 1) p q B (by omega) h1 h100 hlt tp tq hB hQ hz
  simp only [wSeq, wSet, wAsg, wExpr, wRet, wIf, wTest, wNotT, wAndT, wOrT, wIfE, w1, w2, wn, wNil, wCons, wVar, varK_iL, varK_d, wC, wLst, wTup, wQ, qVar_eq, qvO_iL, qvO_d, qC, qI, qNeg, qLen, wNext, takesOf, take_al, take_t, takeO_iL, frzsOf, frzOf, datsOf, datOf, on1, on2, put_t, put_al, putO_iL, toD_iL, toD_d, flat_iL, flat_d, lst_nil, lst_one, lst_iE, lst_iD, nil_dT, nil_dL, fList_dL, fList_dT, fTuple_dL, fTuple_dT, fLen_dL, fLen_dT, fSum_dL, fCat_dL, fCat_int, fRep_dL, fRep_int, fSub_int, fMod_int, fDiv_int, fLt_int, fLe_int, fGt_int, fGe_int, fNeg_int, fAbs_int, fMax2_int, fMin2_int, fInt_int, fInt_bool, fSl_dL, fSl_dT, fSl3_dL, fSl3_dT, fEq_int, fNe_int, fEq_dL, fNe_dL, fEq_dT, fNe_dT, items_dL, items_dT, wSl, wSl3, wNo, wPart, wSq_eq, sqK_t, sqK_al, sqO_iL, qIx_eq, qIxK, lstAt_eq, lstO_iL, DL.placeOf, T.get, core_d, re_iL, re_d, T.put, List.getElem?_cons_zero, List.getElem?_cons_succ, List.set_cons_zero, List.set_cons_succ, List.length_cons, List.length_nil, iD_len, iE_len, and_true, true_and, Bool.not_true, Bool.not_false, if_true, if_false, Bool.false_eq_true, decide_eq_true_eq, Bool.not_eq_true', decide_eq_false_iff_not, wFor, wRng1, wRng2, wRng3, wName, endsD, startG, List.map_cons, List.map_nil, List.replicate, List.cons_append, List.nil_append, look, wCall, Option.some.injEq, exists_eq_left', wPar, DL.putAt, wSetQ, wApp_eq, appO_iL, isLst_iL, wPop_eq, popO_iL, Nat.zero_le, not_true_eq_false, not_false_eq_true, wLc, wipeG, restG, keepD_none, keepD_d, keepD_iL, items_tup, items_lst, wYes, wTTup, wTCons, wTNil]
  have g3' := (trim_iff.mp g3).resolve_left (fun e => by rw [e] at g1; simp at g1)
  refine ⟨cmF (q.length + 1) p q, rfl, ⟨.inr (cont_ne g3'), by show (cmF (q.length + 1) p q).length ≤ 1000; omega⟩, fun r hr => ?_⟩
  exact hr
end RT
end
section
set_option autoImplicit false
namespace RT
open PySem PySem.Spec PyProof.Rows L2 DL
def rowD (s f : List Int) : PyData := .tuple [dT s, dT f]
def polyOf (s : List Int) : List Int := (s.reverse.map fun n => 0 - n) ++ [1]
def S_poly_of : FS := ⟨List Int × List Int, fun x => [rowD x.1 x.2], fun x => x.1.length ≤ 1000, fun x r => r = .d (dT (polyOf x.1))⟩
def toldS (p : List Int) : List Int := p.dropLast.reverse.map fun n => 0 - n
def S_told_by : FS := ⟨List Int × Sq, fun x => [dT x.1, x.2.d], fun x => 1 ≤ x.1.length ∧ x.1.length ≤ 1000, fun x r => r = .d (rowD (toldS x.1) (x.2.v.take (x.1.length - 1)))⟩
def upAt (s f : List Int) (i : Nat) : Int := at0 f i - ((List.range i).map fun j => at0 s j * at0 f (i - 1 - j)).sum
def upP (s f : List Int) : List Int := trimP ((List.range f.length).map (upAt s f)).reverse
def S_upper : FS := ⟨List Int × List Int, fun x => [rowD x.1 x.2], fun x => x.2.length ≤ x.1.length ∧ x.2.length ≤ 1000 ∧ ∃ B, Bds B x.1 ∧ Bds B x.2 ∧ B ≤ 60000000, fun x r => r = .d (dT (upP x.1 x.2))⟩
def ownP (s f : List Int) : List Int := trimP (divP (polyOf s) (CM (polyOf s) (upP s f))).1
def okRow (s f : List Int) : Prop := f.length = s.length ∧ s.length ≤ 20 ∧ ∃ B, Bds B s ∧ Bds B f ∧ (2 * B + s.length + 3) * 5 ^ (s.length + 1) ≤ 134217728
def leastS (s f : List Int) : List Int := toldS (ownP s f)
def leastD (s f : List Int) : PyData := rowD (leastS s f) (f.take ((ownP s f).length - 1))
def S_least : FS := ⟨List Int × List Int, fun x => [rowD x.1 x.2], fun x => okRow x.1 x.2, fun x r => r = .d (leastD x.1 x.2)⟩
def S_by : FS := ⟨List Int × Sq, fun x => [dT x.1, x.2.d], fun x => 1 ≤ x.1.length ∧ okRow (toldS x.1) (x.2.v.take (x.1.length - 1)), fun x r => r = .d (leastD (toldS x.1) (x.2.v.take (x.1.length - 1)))⟩
end RT
end
section
/-! printed by gen.py: what each def reads -/
namespace RT
open PySem PySem.Spec PyProof.Rows L2 DL
def E_poly_of_1 : WE := (w2 (wC (.int 0)) (wVar 1) fSub)
def W_poly_of : WS := (wRet (wn (wCons (w2 (wLc (wSq (wSl3 (wQ (qIx (qVar 0) (qC (.int 0)))) wNo wNo (wPart (w1 (wC (.int 1)) fNeg)))) (wName 1) wYes E_poly_of_1 [1]) (wLst (wCons (wC (.int 1)) wNil)) fCat) wNil) (on1 fTuple)))
def E_told_by_1 : WE := (w2 (wC (.int 0)) (wVar 3) fSub)
def W_told_by : WS := (wSeq (wSet 2 (w2 (wQ (qLen (qVar 0))) (wC (.int 1)) fSub)) (wRet (wTup (wCons (wn (wCons (wLc (wSq (wSl3 (wSl (wVar 0) wNo (wPart (w1 (wC (.int 1)) fNeg))) wNo wNo (wPart (w1 (wC (.int 1)) fNeg)))) (wName 3) wYes E_told_by_1 [3]) wNil) (on1 fTuple)) (wCons (wn (wCons (wSl (wVar 1) wNo (wPart (wVar 2))) wNil) (on1 fTuple)) wNil)))))
def E_upper_1 : WE := (w2 (wQ (qIx (qVar 1) (qVar 5))) (wQ (qIx (qVar 2) (qI (fun i j => i - j) (qI (fun i j => i - j) (qVar 4) (qC (.int 1))) (qVar 5)))) fRep)
def B_upper_2 : WS := (wExpr (fun G k => isLst G[3]? ∧ wApp 3 (w2 (wQ (qIx (qVar 2) (qVar 4))) (wn (wCons (wLc (wRng1 (wCons (wVar 4) wNil)) (wName 5) wYes E_upper_1 [5]) wNil) (on1 fSum)) fSub) G k))
def W_upper : WS := (wSeq (wAsg (wVar 0) (wTTup 2 (wTCons (wName 1) (wTCons (wName 2) wTNil)))) (wSeq (wSet 3 (wLst wNil)) (wSeq (wFor (wRng1 (wCons (wQ (qLen (qVar 2))) wNil)) (wName 4) B_upper_2) (wRet (wCall S_trimmed (wCons (wSl3 (wVar 3) wNo wNo (wPart (w1 (wC (.int 1)) fNeg))) wNil))))))
def W_least : WS := (wSeq (wSet 1 (wCall S_poly_of (wCons (wVar 0) wNil))) (wSeq (wSet 2 (w2 (wCall S_divided (wCons (wVar 1) (wCons (wCall S_common (wCons (wVar 1) (wCons (wCall S_upper (wCons (wVar 0) wNil)) wNil))) wNil))) (wC (.int 0)) fIx)) (wRet (wCall S_told_by (wCons (wVar 2) (wCons (wQ (qIx (qVar 0) (qC (.int 1)))) wNil))))))
def W_by : WS := (wRet (wCall S_least (wCons (wCall S_told_by (wCons (wVar 0) (wCons (wVar 1) wNil))) wNil)))
end RT
end
section
set_option autoImplicit false
namespace RT
open PySem PySem.Spec PyProof.Rows L2 DL
theorem atI_0 {α : Type} {a : α} {l : List α} : atI (a :: l) 0 = some a := by
  unfold atI
  rw [show (0 : Int) = ((0 : Nat) : Int) by rfl, ixN_nat (by rw [List.length_cons]; omega)]
  rfl
theorem atI_1 {α : Type} {a b : α} {l : List α} : atI (a :: b :: l) 1 = some b := by
  unfold atI
  rw [show (1 : Int) = ((1 : Nat) : Int) by rfl, ixN_nat (by rw [List.length_cons, List.length_cons]; omega)]
  rfl
theorem cut_last {α : Type} (xs : List α) : cutL xs none (some (-1)) = xs.dropLast := by
  unfold cutL
  rw [HT.sIx_none, List.drop_zero, Nat.sub_zero, List.dropLast_eq_take]
  show xs.take ((-1 : Int) + (xs.length : Int)).toNat = _
  congr 1
  omega
theorem cut_take {α : Type} (xs : List α) (n : Nat) : cutL xs none (some (n : Int)) = xs.take n := by
  unfold cutL
  rw [HT.sIx_none, List.drop_zero, Nat.sub_zero, HT.sIx_nat]
  by_cases h : n ≤ xs.length
  · rw [Nat.min_eq_left h]
  · rw [Nat.min_eq_right (by omega), List.take_of_length_le (Nat.le_refl _), List.take_of_length_le (by omega)]
theorem items_row {s f : List Int} : itemsD (rowD s f) = some [dT s, dT f] := rfl
theorem WK_poly_of : ∀ x, S_poly_of.pre x → W_poly_of (endsD (S_poly_of.post x)) (startG 2 (S_poly_of.args x)) := by
  rintro ⟨s, f⟩ (h : s.length ≤ 1000)
  simp only [W_poly_of, S_poly_of, wSeq, wSet, wAsg, wExpr, wRet, wIf, wTest, wNotT, wAndT, wOrT, wIfE, w1, w2, wn, wNil, wCons, wVar, varK_iL, varK_d, wC, wLst, wTup, wQ, qVar_eq, qvO_iL, qvO_d, qC, qI, qNeg, qLen, wNext, takesOf, take_al, take_t, takeO_iL, frzsOf, frzOf, datsOf, datOf, on1, on2, put_t, put_al, putO_iL, toD_iL, toD_d, flat_iL, flat_d, lst_nil, lst_one, lst_iE, lst_iD, nil_dT, nil_dL, fList_dL, fList_dT, fTuple_dL, fTuple_dT, fLen_dL, fLen_dT, fSum_dL, fCat_dL, fCat_int, fRep_dL, fRep_int, fSub_int, fMod_int, fDiv_int, fLt_int, fLe_int, fGt_int, fGe_int, fNeg_int, fAbs_int, fMax2_int, fMin2_int, fInt_int, fInt_bool, fSl_dL, fSl_dT, fSl3_dL, fSl3_dT, fEq_int, fNe_int, fEq_dL, fNe_dL, fEq_dT, fNe_dT, items_dL, items_dT, wSl, wSl3, wNo, wPart, wSq_eq, sqK_t, sqK_al, sqO_iL, qIx_eq, qIxK, lstAt_eq, lstO_iL, DL.placeOf, T.get, core_d, re_iL, re_d, T.put, List.getElem?_cons_zero, List.getElem?_cons_succ, List.set_cons_zero, List.set_cons_succ, List.length_cons, List.length_nil, iD_len, iE_len, and_true, true_and, Bool.not_true, Bool.not_false, if_true, if_false, Bool.false_eq_true, decide_eq_true_eq, Bool.not_eq_true', decide_eq_false_iff_not, wFor, wRng1, wRng2, wRng3, wName, endsD, startG, List.map_cons, List.map_nil, List.replicate, List.cons_append, List.nil_append, look, wCall, Option.some.injEq, exists_eq_left', wPar, DL.putAt, wSetQ, wApp_eq, appO_iL, isLst_iL, wPop_eq, popO_iL, Nat.zero_le, not_true_eq_false, not_false_eq_true, wLc, wipeG, restG, keepD_none, keepD_d, keepD_iL, items_tup, items_lst, wYes, wTTup, wTCons, wTNil, items_row, atI_0]
  refine ⟨by rw [List.length_reverse]; exact le1000 h, ?_⟩
  refine lcW_ints (fun n => 0 - n) _ (fun n hn R R2 hR => ?_) ?_
  · simp only [E_poly_of_1, wSeq, wSet, wAsg, wExpr, wRet, wIf, wTest, wNotT, wAndT, wOrT, wIfE, w1, w2, wn, wNil, wCons, wVar, varK_iL, varK_d, wC, wLst, wTup, wQ, qVar_eq, qvO_iL, qvO_d, qC, qI, qNeg, qLen, wNext, takesOf, take_al, take_t, takeO_iL, frzsOf, frzOf, datsOf, datOf, on1, on2, put_t, put_al, putO_iL, toD_iL, toD_d, flat_iL, flat_d, lst_nil, lst_one, lst_iE, lst_iD, nil_dT, nil_dL, fList_dL, fList_dT, fTuple_dL, fTuple_dT, fLen_dL, fLen_dT, fSum_dL, fCat_dL, fCat_int, fRep_dL, fRep_int, fSub_int, fMod_int, fDiv_int, fLt_int, fLe_int, fGt_int, fGe_int, fNeg_int, fAbs_int, fMax2_int, fMin2_int, fInt_int, fInt_bool, fSl_dL, fSl_dT, fSl3_dL, fSl3_dT, fEq_int, fNe_int, fEq_dL, fNe_dL, fEq_dT, fNe_dT, items_dL, items_dT, wSl, wSl3, wNo, wPart, wSq_eq, sqK_t, sqK_al, sqO_iL, qIx_eq, qIxK, lstAt_eq, lstO_iL, DL.placeOf, T.get, core_d, re_iL, re_d, T.put, List.getElem?_cons_zero, List.getElem?_cons_succ, List.set_cons_zero, List.set_cons_succ, List.length_cons, List.length_nil, iD_len, iE_len, and_true, true_and, Bool.not_true, Bool.not_false, if_true, if_false, Bool.false_eq_true, decide_eq_true_eq, Bool.not_eq_true', decide_eq_false_iff_not, wFor, wRng1, wRng2, wRng3, wName, endsD, startG, List.map_cons, List.map_nil, List.replicate, List.cons_append, List.nil_append, look, wCall, Option.some.injEq, exists_eq_left', wPar, DL.putAt, wSetQ, wApp_eq, appO_iL, isLst_iL, wPop_eq, popO_iL, Nat.zero_le, not_true_eq_false, not_false_eq_true, wLc, wipeG, restG, keepD_none, keepD_d, keepD_iL, items_tup, items_lst, wYes, wTTup, wTCons, wTNil]
    exact ⟨by decide, hR⟩
  · simp only [wSeq, wSet, wAsg, wExpr, wRet, wIf, wTest, wNotT, wAndT, wOrT, wIfE, w1, w2, wn, wNil, wCons, wVar, varK_iL, varK_d, wC, wLst, wTup, wQ, qVar_eq, qvO_iL, qvO_d, qC, qI, qNeg, qLen, wNext, takesOf, take_al, take_t, takeO_iL, frzsOf, frzOf, datsOf, datOf, on1, on2, put_t, put_al, putO_iL, toD_iL, toD_d, flat_iL, flat_d, lst_nil, lst_one, lst_iE, lst_iD, nil_dT, nil_dL, fList_dL, fList_dT, fTuple_dL, fTuple_dT, fLen_dL, fLen_dT, fSum_dL, fCat_dL, fCat_int, fRep_dL, fRep_int, fSub_int, fMod_int, fDiv_int, fLt_int, fLe_int, fGt_int, fGe_int, fNeg_int, fAbs_int, fMax2_int, fMin2_int, fInt_int, fInt_bool, fSl_dL, fSl_dT, fSl3_dL, fSl3_dT, fEq_int, fNe_int, fEq_dL, fNe_dL, fEq_dT, fNe_dT, items_dL, items_dT, wSl, wSl3, wNo, wPart, wSq_eq, sqK_t, sqK_al, sqO_iL, qIx_eq, qIxK, lstAt_eq, lstO_iL, DL.placeOf, T.get, core_d, re_iL, re_d, T.put, List.getElem?_cons_zero, List.getElem?_cons_succ, List.set_cons_zero, List.set_cons_succ, List.length_cons, List.length_nil, iD_len, iE_len, and_true, true_and, Bool.not_true, Bool.not_false, if_true, if_false, Bool.false_eq_true, decide_eq_true_eq, Bool.not_eq_true', decide_eq_false_iff_not, wFor, wRng1, wRng2, wRng3, wName, endsD, startG, List.map_cons, List.map_nil, List.replicate, List.cons_append, List.nil_append, look, wCall, Option.some.injEq, exists_eq_left', wPar, DL.putAt, wSetQ, wApp_eq, appO_iL, isLst_iL, wPop_eq, popO_iL, Nat.zero_le, not_true_eq_false, not_false_eq_true, wLc, wipeG, restG, keepD_none, keepD_d, keepD_iL, items_tup, items_lst, wYes, wTTup, wTCons, wTNil, List.length_map, List.length_reverse]
    exact ⟨by decide, by show s.length + 1 ≤ 2 ^ 24; omega, rfl⟩
theorem WK_told_by : ∀ x, S_told_by.pre x → W_told_by (endsD (S_told_by.post x)) (startG 4 (S_told_by.args x)) := by
  rintro ⟨p, q⟩ ⟨h1, h2⟩
  have h1 : 1 ≤ p.length := h1
  have h2 : p.length ≤ 1000 := h2
  have e1 : ((p.length : Int) - 1) = ((p.length - 1 : Nat) : Int) := by omega
  cases q with
  | l xs =>
    simp only [W_told_by, S_told_by, wSeq, wSet, wAsg, wExpr, wRet, wIf, wTest, wNotT, wAndT, wOrT, wIfE, w1, w2, wn, wNil, wCons, wVar, varK_iL, varK_d, wC, wLst, wTup, wQ, qVar_eq, qvO_iL, qvO_d, qC, qI, qNeg, qLen, wNext, takesOf, take_al, take_t, takeO_iL, frzsOf, frzOf, datsOf, datOf, on1, on2, put_t, put_al, putO_iL, toD_iL, toD_d, flat_iL, flat_d, lst_nil, lst_one, lst_iE, lst_iD, nil_dT, nil_dL, fList_dL, fList_dT, fTuple_dL, fTuple_dT, fLen_dL, fLen_dT, fSum_dL, fCat_dL, fCat_int, fRep_dL, fRep_int, fSub_int, fMod_int, fDiv_int, fLt_int, fLe_int, fGt_int, fGe_int, fNeg_int, fAbs_int, fMax2_int, fMin2_int, fInt_int, fInt_bool, fSl_dL, fSl_dT, fSl3_dL, fSl3_dT, fEq_int, fNe_int, fEq_dL, fNe_dL, fEq_dT, fNe_dT, items_dL, items_dT, wSl, wSl3, wNo, wPart, wSq_eq, sqK_t, sqK_al, sqO_iL, qIx_eq, qIxK, lstAt_eq, lstO_iL, DL.placeOf, T.get, core_d, re_iL, re_d, T.put, List.getElem?_cons_zero, List.getElem?_cons_succ, List.set_cons_zero, List.set_cons_succ, List.length_cons, List.length_nil, iD_len, iE_len, and_true, true_and, Bool.not_true, Bool.not_false, if_true, if_false, Bool.false_eq_true, decide_eq_true_eq, Bool.not_eq_true', decide_eq_false_iff_not, wFor, wRng1, wRng2, wRng3, wName, endsD, startG, List.map_cons, List.map_nil, List.replicate, List.cons_append, List.nil_append, look, wCall, Option.some.injEq, exists_eq_left', wPar, DL.putAt, wSetQ, wApp_eq, appO_iL, isLst_iL, wPop_eq, popO_iL, Nat.zero_le, not_true_eq_false, not_false_eq_true, wLc, wipeG, restG, keepD_none, keepD_d, keepD_iL, items_tup, items_lst, wYes, wTTup, wTCons, wTNil, Sq.d, cut_last, e1]
    refine ⟨by decide, le1000 (by rw [List.length_reverse, List.length_dropLast]; omega), ?_⟩
    refine lcW_ints (fun n => 0 - n) _ (fun n hn R R2 hR => ?_) ?_
    · simp only [E_told_by_1, wSeq, wSet, wAsg, wExpr, wRet, wIf, wTest, wNotT, wAndT, wOrT, wIfE, w1, w2, wn, wNil, wCons, wVar, varK_iL, varK_d, wC, wLst, wTup, wQ, qVar_eq, qvO_iL, qvO_d, qC, qI, qNeg, qLen, wNext, takesOf, take_al, take_t, takeO_iL, frzsOf, frzOf, datsOf, datOf, on1, on2, put_t, put_al, putO_iL, toD_iL, toD_d, flat_iL, flat_d, lst_nil, lst_one, lst_iE, lst_iD, nil_dT, nil_dL, fList_dL, fList_dT, fTuple_dL, fTuple_dT, fLen_dL, fLen_dT, fSum_dL, fCat_dL, fCat_int, fRep_dL, fRep_int, fSub_int, fMod_int, fDiv_int, fLt_int, fLe_int, fGt_int, fGe_int, fNeg_int, fAbs_int, fMax2_int, fMin2_int, fInt_int, fInt_bool, fSl_dL, fSl_dT, fSl3_dL, fSl3_dT, fEq_int, fNe_int, fEq_dL, fNe_dL, fEq_dT, fNe_dT, items_dL, items_dT, wSl, wSl3, wNo, wPart, wSq_eq, sqK_t, sqK_al, sqO_iL, qIx_eq, qIxK, lstAt_eq, lstO_iL, DL.placeOf, T.get, core_d, re_iL, re_d, T.put, List.getElem?_cons_zero, List.getElem?_cons_succ, List.set_cons_zero, List.set_cons_succ, List.length_cons, List.length_nil, iD_len, iE_len, and_true, true_and, Bool.not_true, Bool.not_false, if_true, if_false, Bool.false_eq_true, decide_eq_true_eq, Bool.not_eq_true', decide_eq_false_iff_not, wFor, wRng1, wRng2, wRng3, wName, endsD, startG, List.map_cons, List.map_nil, List.replicate, List.cons_append, List.nil_append, look, wCall, Option.some.injEq, exists_eq_left', wPar, DL.putAt, wSetQ, wApp_eq, appO_iL, isLst_iL, wPop_eq, popO_iL, Nat.zero_le, not_true_eq_false, not_false_eq_true, wLc, wipeG, restG, keepD_none, keepD_d, keepD_iL, items_tup, items_lst, wYes, wTTup, wTCons, wTNil]
      exact ⟨by decide, hR⟩
    · simp only [wSeq, wSet, wAsg, wExpr, wRet, wIf, wTest, wNotT, wAndT, wOrT, wIfE, w1, w2, wn, wNil, wCons, wVar, varK_iL, varK_d, wC, wLst, wTup, wQ, qVar_eq, qvO_iL, qvO_d, qC, qI, qNeg, qLen, wNext, takesOf, take_al, take_t, takeO_iL, frzsOf, frzOf, datsOf, datOf, on1, on2, put_t, put_al, putO_iL, toD_iL, toD_d, flat_iL, flat_d, lst_nil, lst_one, lst_iE, lst_iD, nil_dT, nil_dL, fList_dL, fList_dT, fTuple_dL, fTuple_dT, fLen_dL, fLen_dT, fSum_dL, fCat_dL, fCat_int, fRep_dL, fRep_int, fSub_int, fMod_int, fDiv_int, fLt_int, fLe_int, fGt_int, fGe_int, fNeg_int, fAbs_int, fMax2_int, fMin2_int, fInt_int, fInt_bool, fSl_dL, fSl_dT, fSl3_dL, fSl3_dT, fEq_int, fNe_int, fEq_dL, fNe_dL, fEq_dT, fNe_dT, items_dL, items_dT, wSl, wSl3, wNo, wPart, wSq_eq, sqK_t, sqK_al, sqO_iL, qIx_eq, qIxK, lstAt_eq, lstO_iL, DL.placeOf, T.get, core_d, re_iL, re_d, T.put, List.getElem?_cons_zero, List.getElem?_cons_succ, List.set_cons_zero, List.set_cons_succ, List.length_cons, List.length_nil, iD_len, iE_len, and_true, true_and, Bool.not_true, Bool.not_false, if_true, if_false, Bool.false_eq_true, decide_eq_true_eq, Bool.not_eq_true', decide_eq_false_iff_not, wFor, wRng1, wRng2, wRng3, wName, endsD, startG, List.map_cons, List.map_nil, List.replicate, List.cons_append, List.nil_append, look, wCall, Option.some.injEq, exists_eq_left', wPar, DL.putAt, wSetQ, wApp_eq, appO_iL, isLst_iL, wPop_eq, popO_iL, Nat.zero_le, not_true_eq_false, not_false_eq_true, wLc, wipeG, restG, keepD_none, keepD_d, keepD_iL, items_tup, items_lst, wYes, wTTup, wTCons, wTNil, cut_take]
      exact ⟨by decide, rfl⟩
  | t xs =>
    simp only [W_told_by, S_told_by, wSeq, wSet, wAsg, wExpr, wRet, wIf, wTest, wNotT, wAndT, wOrT, wIfE, w1, w2, wn, wNil, wCons, wVar, varK_iL, varK_d, wC, wLst, wTup, wQ, qVar_eq, qvO_iL, qvO_d, qC, qI, qNeg, qLen, wNext, takesOf, take_al, take_t, takeO_iL, frzsOf, frzOf, datsOf, datOf, on1, on2, put_t, put_al, putO_iL, toD_iL, toD_d, flat_iL, flat_d, lst_nil, lst_one, lst_iE, lst_iD, nil_dT, nil_dL, fList_dL, fList_dT, fTuple_dL, fTuple_dT, fLen_dL, fLen_dT, fSum_dL, fCat_dL, fCat_int, fRep_dL, fRep_int, fSub_int, fMod_int, fDiv_int, fLt_int, fLe_int, fGt_int, fGe_int, fNeg_int, fAbs_int, fMax2_int, fMin2_int, fInt_int, fInt_bool, fSl_dL, fSl_dT, fSl3_dL, fSl3_dT, fEq_int, fNe_int, fEq_dL, fNe_dL, fEq_dT, fNe_dT, items_dL, items_dT, wSl, wSl3, wNo, wPart, wSq_eq, sqK_t, sqK_al, sqO_iL, qIx_eq, qIxK, lstAt_eq, lstO_iL, DL.placeOf, T.get, core_d, re_iL, re_d, T.put, List.getElem?_cons_zero, List.getElem?_cons_succ, List.set_cons_zero, List.set_cons_succ, List.length_cons, List.length_nil, iD_len, iE_len, and_true, true_and, Bool.not_true, Bool.not_false, if_true, if_false, Bool.false_eq_true, decide_eq_true_eq, Bool.not_eq_true', decide_eq_false_iff_not, wFor, wRng1, wRng2, wRng3, wName, endsD, startG, List.map_cons, List.map_nil, List.replicate, List.cons_append, List.nil_append, look, wCall, Option.some.injEq, exists_eq_left', wPar, DL.putAt, wSetQ, wApp_eq, appO_iL, isLst_iL, wPop_eq, popO_iL, Nat.zero_le, not_true_eq_false, not_false_eq_true, wLc, wipeG, restG, keepD_none, keepD_d, keepD_iL, items_tup, items_lst, wYes, wTTup, wTCons, wTNil, Sq.d, cut_last, e1]
    refine ⟨by decide, le1000 (by rw [List.length_reverse, List.length_dropLast]; omega), ?_⟩
    refine lcW_ints (fun n => 0 - n) _ (fun n hn R R2 hR => ?_) ?_
    · simp only [E_told_by_1, wSeq, wSet, wAsg, wExpr, wRet, wIf, wTest, wNotT, wAndT, wOrT, wIfE, w1, w2, wn, wNil, wCons, wVar, varK_iL, varK_d, wC, wLst, wTup, wQ, qVar_eq, qvO_iL, qvO_d, qC, qI, qNeg, qLen, wNext, takesOf, take_al, take_t, takeO_iL, frzsOf, frzOf, datsOf, datOf, on1, on2, put_t, put_al, putO_iL, toD_iL, toD_d, flat_iL, flat_d, lst_nil, lst_one, lst_iE, lst_iD, nil_dT, nil_dL, fList_dL, fList_dT, fTuple_dL, fTuple_dT, fLen_dL, fLen_dT, fSum_dL, fCat_dL, fCat_int, fRep_dL, fRep_int, fSub_int, fMod_int, fDiv_int, fLt_int, fLe_int, fGt_int, fGe_int, fNeg_int, fAbs_int, fMax2_int, fMin2_int, fInt_int, fInt_bool, fSl_dL, fSl_dT, fSl3_dL, fSl3_dT, fEq_int, fNe_int, fEq_dL, fNe_dL, fEq_dT, fNe_dT, items_dL, items_dT, wSl, wSl3, wNo, wPart, wSq_eq, sqK_t, sqK_al, sqO_iL, qIx_eq, qIxK, lstAt_eq, lstO_iL, DL.placeOf, T.get, core_d, re_iL, re_d, T.put, List.getElem?_cons_zero, List.getElem?_cons_succ, List.set_cons_zero, List.set_cons_succ, List.length_cons, List.length_nil, iD_len, iE_len, and_true, true_and, Bool.not_true, Bool.not_false, if_true, if_false, Bool.false_eq_true, decide_eq_true_eq, Bool.not_eq_true', decide_eq_false_iff_not, wFor, wRng1, wRng2, wRng3, wName, endsD, startG, List.map_cons, List.map_nil, List.replicate, List.cons_append, List.nil_append, look, wCall, Option.some.injEq, exists_eq_left', wPar, DL.putAt, wSetQ, wApp_eq, appO_iL, isLst_iL, wPop_eq, popO_iL, Nat.zero_le, not_true_eq_false, not_false_eq_true, wLc, wipeG, restG, keepD_none, keepD_d, keepD_iL, items_tup, items_lst, wYes, wTTup, wTCons, wTNil]
      exact ⟨by decide, hR⟩
    · simp only [wSeq, wSet, wAsg, wExpr, wRet, wIf, wTest, wNotT, wAndT, wOrT, wIfE, w1, w2, wn, wNil, wCons, wVar, varK_iL, varK_d, wC, wLst, wTup, wQ, qVar_eq, qvO_iL, qvO_d, qC, qI, qNeg, qLen, wNext, takesOf, take_al, take_t, takeO_iL, frzsOf, frzOf, datsOf, datOf, on1, on2, put_t, put_al, putO_iL, toD_iL, toD_d, flat_iL, flat_d, lst_nil, lst_one, lst_iE, lst_iD, nil_dT, nil_dL, fList_dL, fList_dT, fTuple_dL, fTuple_dT, fLen_dL, fLen_dT, fSum_dL, fCat_dL, fCat_int, fRep_dL, fRep_int, fSub_int, fMod_int, fDiv_int, fLt_int, fLe_int, fGt_int, fGe_int, fNeg_int, fAbs_int, fMax2_int, fMin2_int, fInt_int, fInt_bool, fSl_dL, fSl_dT, fSl3_dL, fSl3_dT, fEq_int, fNe_int, fEq_dL, fNe_dL, fEq_dT, fNe_dT, items_dL, items_dT, wSl, wSl3, wNo, wPart, wSq_eq, sqK_t, sqK_al, sqO_iL, qIx_eq, qIxK, lstAt_eq, lstO_iL, DL.placeOf, T.get, core_d, re_iL, re_d, T.put, List.getElem?_cons_zero, List.getElem?_cons_succ, List.set_cons_zero, List.set_cons_succ, List.length_cons, List.length_nil, iD_len, iE_len, and_true, true_and, Bool.not_true, Bool.not_false, if_true, if_false, Bool.false_eq_true, decide_eq_true_eq, Bool.not_eq_true', decide_eq_false_iff_not, wFor, wRng1, wRng2, wRng3, wName, endsD, startG, List.map_cons, List.map_nil, List.replicate, List.cons_append, List.nil_append, look, wCall, Option.some.injEq, exists_eq_left', wPar, DL.putAt, wSetQ, wApp_eq, appO_iL, isLst_iL, wPop_eq, popO_iL, Nat.zero_le, not_true_eq_false, not_false_eq_true, wLc, wipeG, restG, keepD_none, keepD_d, keepD_iL, items_tup, items_lst, wYes, wTTup, wTCons, wTNil, cut_take]
      exact ⟨by decide, rfl⟩
theorem map_iE (f : Nat → Int) (l : List Nat) : l.map (fun j => T.d (.int (f j))) = iE (l.map f) := by
  unfold iE iD
  rw [List.map_map, List.map_map]
  rfl
theorem upper_loop {r0 : PyData} {s f : List Int} {D : DEnds} {B : Nat} (hs : Bds B s) (hf : Bds B f) (hB : B ≤ 60000000) (hl : f.length ≤ s.length) (hl2 : f.length ≤ 1000) : ∀ (n i : Nat) (acc : List Int) (o : Option T), i + n = f.length → acc.length = i →
    (∀ o, D.nx [some (.d r0), some (.d (dT s)), some (.d (dT f)), some (iL (acc ++ (List.range' i n).map (upAt s f))), o, none]) →
    forW (wName 4) B_upper_2 (rangeD (i : Int) n) D [some (.d r0), some (.d (dT s)), some (.d (dT f)), some (iL acc), o, none]
  | 0, i, acc, o, _, _, h => by
    rw [rangeD_zero, forW]
    have := h o
    rw [List.range'_zero, List.map_nil, List.append_nil] at this
    exact this
  | n + 1, i, acc, o, hi, ha, h => by
    rw [rangeD_succ, forW]
    generalize hR : forW (wName 4) B_upper_2 (rangeD ((i : Int) + 1) n) D = R0
    simp only [B_upper_2, wSeq, wSet, wAsg, wExpr, wRet, wIf, wTest, wNotT, wAndT, wOrT, wIfE, w1, w2, wn, wNil, wCons, wVar, varK_iL, varK_d, wC, wLst, wTup, wQ, qVar_eq, qvO_iL, qvO_d, qC, qI, qNeg, qLen, wNext, takesOf, take_al, take_t, takeO_iL, frzsOf, frzOf, datsOf, datOf, on1, on2, put_t, put_al, putO_iL, toD_iL, toD_d, flat_iL, flat_d, lst_nil, lst_one, lst_iE, lst_iD, nil_dT, nil_dL, fList_dL, fList_dT, fTuple_dL, fTuple_dT, fLen_dL, fLen_dT, fSum_dL, fCat_dL, fCat_int, fRep_dL, fRep_int, fSub_int, fMod_int, fDiv_int, fLt_int, fLe_int, fGt_int, fGe_int, fNeg_int, fAbs_int, fMax2_int, fMin2_int, fInt_int, fInt_bool, fSl_dL, fSl_dT, fSl3_dL, fSl3_dT, fEq_int, fNe_int, fEq_dL, fNe_dL, fEq_dT, fNe_dT, items_dL, items_dT, wSl, wSl3, wNo, wPart, wSq_eq, sqK_t, sqK_al, sqO_iL, qIx_eq, qIxK, lstAt_eq, lstO_iL, DL.placeOf, T.get, core_d, re_iL, re_d, T.put, List.getElem?_cons_zero, List.getElem?_cons_succ, List.set_cons_zero, List.set_cons_succ, List.length_cons, List.length_nil, iD_len, iE_len, and_true, true_and, Bool.not_true, Bool.not_false, if_true, if_false, Bool.false_eq_true, decide_eq_true_eq, Bool.not_eq_true', decide_eq_false_iff_not, wFor, wRng1, wRng2, wRng3, wName, endsD, startG, List.map_cons, List.map_nil, List.replicate, List.cons_append, List.nil_append, look, wCall, Option.some.injEq, exists_eq_left', wPar, DL.putAt, wSetQ, wApp_eq, appO_iL, isLst_iL, wPop_eq, popO_iL, Nat.zero_le, not_true_eq_false, not_false_eq_true, wLc, wipeG, restG, keepD_none, keepD_d, keepD_iL, items_tup, items_lst, wYes, wTTup, wTCons, wTNil, atI_at (rfl : (i : Int) = (i : Int)) (show i < f.length by omega), Int.sub_zero, Int.toNat_natCast]
    refine ⟨by decide, ⟨by omega, by omega⟩, by rw [rangeD_len]; exact le1000 (by omega), ?_⟩
    refine lcW_range (fun j => .d (.int (at0 s j * at0 f (i - 1 - j)))) 0 i (fun j hj R R2 hR => ?_) ?_
    · have e1 : ((0 : Int) + (j : Int)) = (j : Int) := by omega
      have e2 : ((i : Int) - 1 - (j : Int)) = ((i - 1 - j : Nat) : Int) := by omega
      rw [e1]
      simp only [E_upper_1, wSeq, wSet, wAsg, wExpr, wRet, wIf, wTest, wNotT, wAndT, wOrT, wIfE, w1, w2, wn, wNil, wCons, wVar, varK_iL, varK_d, wC, wLst, wTup, wQ, qVar_eq, qvO_iL, qvO_d, qC, qI, qNeg, qLen, wNext, takesOf, take_al, take_t, takeO_iL, frzsOf, frzOf, datsOf, datOf, on1, on2, put_t, put_al, putO_iL, toD_iL, toD_d, flat_iL, flat_d, lst_nil, lst_one, lst_iE, lst_iD, nil_dT, nil_dL, fList_dL, fList_dT, fTuple_dL, fTuple_dT, fLen_dL, fLen_dT, fSum_dL, fCat_dL, fCat_int, fRep_dL, fRep_int, fSub_int, fMod_int, fDiv_int, fLt_int, fLe_int, fGt_int, fGe_int, fNeg_int, fAbs_int, fMax2_int, fMin2_int, fInt_int, fInt_bool, fSl_dL, fSl_dT, fSl3_dL, fSl3_dT, fEq_int, fNe_int, fEq_dL, fNe_dL, fEq_dT, fNe_dT, items_dL, items_dT, wSl, wSl3, wNo, wPart, wSq_eq, sqK_t, sqK_al, sqO_iL, qIx_eq, qIxK, lstAt_eq, lstO_iL, DL.placeOf, T.get, core_d, re_iL, re_d, T.put, List.getElem?_cons_zero, List.getElem?_cons_succ, List.set_cons_zero, List.set_cons_succ, List.length_cons, List.length_nil, iD_len, iE_len, and_true, true_and, Bool.not_true, Bool.not_false, if_true, if_false, Bool.false_eq_true, decide_eq_true_eq, Bool.not_eq_true', decide_eq_false_iff_not, wFor, wRng1, wRng2, wRng3, wName, endsD, startG, List.map_cons, List.map_nil, List.replicate, List.cons_append, List.nil_append, look, wCall, Option.some.injEq, exists_eq_left', wPar, DL.putAt, wSetQ, wApp_eq, appO_iL, isLst_iL, wPop_eq, popO_iL, Nat.zero_le, not_true_eq_false, not_false_eq_true, wLc, wipeG, restG, keepD_none, keepD_d, keepD_iL, items_tup, items_lst, wYes, wTTup, wTCons, wTNil, atI_at (rfl : (j : Int) = (j : Int)) (show j < s.length by omega), atI_at e2 (show i - 1 - j < f.length by omega)]
      exact ⟨by decide, mulOk (hs.at0 _) (hf.at0 _) (by omega), hR⟩
    · rw [map_iE]
      simp only [wSeq, wSet, wAsg, wExpr, wRet, wIf, wTest, wNotT, wAndT, wOrT, wIfE, w1, w2, wn, wNil, wCons, wVar, varK_iL, varK_d, wC, wLst, wTup, wQ, qVar_eq, qvO_iL, qvO_d, qC, qI, qNeg, qLen, wNext, takesOf, take_al, take_t, takeO_iL, frzsOf, frzOf, datsOf, datOf, on1, on2, put_t, put_al, putO_iL, toD_iL, toD_d, flat_iL, flat_d, lst_nil, lst_one, lst_iE, lst_iD, nil_dT, nil_dL, fList_dL, fList_dT, fTuple_dL, fTuple_dT, fLen_dL, fLen_dT, fSum_dL, fCat_dL, fCat_int, fRep_dL, fRep_int, fSub_int, fMod_int, fDiv_int, fLt_int, fLe_int, fGt_int, fGe_int, fNeg_int, fAbs_int, fMax2_int, fMin2_int, fInt_int, fInt_bool, fSl_dL, fSl_dT, fSl3_dL, fSl3_dT, fEq_int, fNe_int, fEq_dL, fNe_dL, fEq_dT, fNe_dT, items_dL, items_dT, wSl, wSl3, wNo, wPart, wSq_eq, sqK_t, sqK_al, sqO_iL, qIx_eq, qIxK, lstAt_eq, lstO_iL, DL.placeOf, T.get, core_d, re_iL, re_d, T.put, List.getElem?_cons_zero, List.getElem?_cons_succ, List.set_cons_zero, List.set_cons_succ, List.length_cons, List.length_nil, iD_len, iE_len, and_true, true_and, Bool.not_true, Bool.not_false, if_true, if_false, Bool.false_eq_true, decide_eq_true_eq, Bool.not_eq_true', decide_eq_false_iff_not, wFor, wRng1, wRng2, wRng3, wName, endsD, startG, List.map_cons, List.map_nil, List.replicate, List.cons_append, List.nil_append, look, wCall, Option.some.injEq, exists_eq_left', wPar, DL.putAt, wSetQ, wApp_eq, appO_iL, isLst_iL, wPop_eq, popO_iL, Nat.zero_le, not_true_eq_false, not_false_eq_true, wLc, wipeG, restG, keepD_none, keepD_d, keepD_iL, items_tup, items_lst, wYes, wTTup, wTCons, wTNil]
      refine ⟨Nat.lt_of_lt_of_le (show acc.length < 1000 by omega) (by decide), ?_⟩
      have e3 : ((i : Int) + 1) = ((i + 1 : Nat) : Int) := by omega
      rw [← hR, e3]
      refine upper_loop hs hf hB hl hl2 n (i + 1) (acc ++ [upAt s f i]) _ (by omega) (by rw [List.length_append, List.length_singleton, ha]) fun o => ?_
      have := h o
      rw [List.range'_succ, List.map_cons] at this
      rw [List.append_assoc]
      exact this
theorem WK_upper : ∀ x, S_upper.pre x → W_upper (endsD (S_upper.post x)) (startG 6 (S_upper.args x)) := by
  rintro ⟨s, f⟩ ⟨hl, hl2, B, hs, hf, hB⟩
  have hl : f.length ≤ s.length := hl
  have hl2 : f.length ≤ 1000 := hl2
  have hs : Bds B s := hs
  have hf : Bds B f := hf
  simp only [W_upper, S_upper, wSeq, wSet, wAsg, wExpr, wRet, wIf, wTest, wNotT, wAndT, wOrT, wIfE, w1, w2, wn, wNil, wCons, wVar, varK_iL, varK_d, wC, wLst, wTup, wQ, qVar_eq, qvO_iL, qvO_d, qC, qI, qNeg, qLen, wNext, takesOf, take_al, take_t, takeO_iL, frzsOf, frzOf, datsOf, datOf, on1, on2, put_t, put_al, putO_iL, toD_iL, toD_d, flat_iL, flat_d, lst_nil, lst_one, lst_iE, lst_iD, nil_dT, nil_dL, fList_dL, fList_dT, fTuple_dL, fTuple_dT, fLen_dL, fLen_dT, fSum_dL, fCat_dL, fCat_int, fRep_dL, fRep_int, fSub_int, fMod_int, fDiv_int, fLt_int, fLe_int, fGt_int, fGe_int, fNeg_int, fAbs_int, fMax2_int, fMin2_int, fInt_int, fInt_bool, fSl_dL, fSl_dT, fSl3_dL, fSl3_dT, fEq_int, fNe_int, fEq_dL, fNe_dL, fEq_dT, fNe_dT, items_dL, items_dT, wSl, wSl3, wNo, wPart, wSq_eq, sqK_t, sqK_al, sqO_iL, qIx_eq, qIxK, lstAt_eq, lstO_iL, DL.placeOf, T.get, core_d, re_iL, re_d, T.put, List.getElem?_cons_zero, List.getElem?_cons_succ, List.set_cons_zero, List.set_cons_succ, List.length_cons, List.length_nil, iD_len, iE_len, and_true, true_and, Bool.not_true, Bool.not_false, if_true, if_false, Bool.false_eq_true, decide_eq_true_eq, Bool.not_eq_true', decide_eq_false_iff_not, wFor, wRng1, wRng2, wRng3, wName, endsD, startG, List.map_cons, List.map_nil, List.replicate, List.cons_append, List.nil_append, look, wCall, Option.some.injEq, exists_eq_left', wPar, DL.putAt, wSetQ, wApp_eq, appO_iL, isLst_iL, wPop_eq, popO_iL, Nat.zero_le, not_true_eq_false, not_false_eq_true, wLc, wipeG, restG, keepD_none, keepD_d, keepD_iL, items_tup, items_lst, wYes, wTTup, wTCons, wTNil, items_row]
  rw [Int.toNat_natCast]
  refine ⟨trivial, by decide, by decide, by decide, ⟨by omega, by omega⟩, ?_⟩
  refine upper_loop hs hf hB hl hl2 f.length 0 [] none (by omega) rfl fun o => ?_
  simp only [wSeq, wSet, wAsg, wExpr, wRet, wIf, wTest, wNotT, wAndT, wOrT, wIfE, w1, w2, wn, wNil, wCons, wVar, varK_iL, varK_d, wC, wLst, wTup, wQ, qVar_eq, qvO_iL, qvO_d, qC, qI, qNeg, qLen, wNext, takesOf, take_al, take_t, takeO_iL, frzsOf, frzOf, datsOf, datOf, on1, on2, put_t, put_al, putO_iL, toD_iL, toD_d, flat_iL, flat_d, lst_nil, lst_one, lst_iE, lst_iD, nil_dT, nil_dL, fList_dL, fList_dT, fTuple_dL, fTuple_dT, fLen_dL, fLen_dT, fSum_dL, fCat_dL, fCat_int, fRep_dL, fRep_int, fSub_int, fMod_int, fDiv_int, fLt_int, fLe_int, fGt_int, fGe_int, fNeg_int, fAbs_int, fMax2_int, fMin2_int, fInt_int, fInt_bool, fSl_dL, fSl_dT, fSl3_dL, fSl3_dT, fEq_int, fNe_int, fEq_dL, fNe_dL, fEq_dT, fNe_dT, items_dL, items_dT, wSl, wSl3, wNo, wPart, wSq_eq, sqK_t, sqK_al, sqO_iL, qIx_eq, qIxK, lstAt_eq, lstO_iL, DL.placeOf, T.get, core_d, re_iL, re_d, T.put, List.getElem?_cons_zero, List.getElem?_cons_succ, List.set_cons_zero, List.set_cons_succ, List.length_cons, List.length_nil, iD_len, iE_len, and_true, true_and, Bool.not_true, Bool.not_false, if_true, if_false, Bool.false_eq_true, decide_eq_true_eq, Bool.not_eq_true', decide_eq_false_iff_not, wFor, wRng1, wRng2, wRng3, wName, endsD, startG, List.map_cons, List.map_nil, List.replicate, List.cons_append, List.nil_append, look, wCall, Option.some.injEq, exists_eq_left', wPar, DL.putAt, wSetQ, wApp_eq, appO_iL, isLst_iL, wPop_eq, popO_iL, Nat.zero_le, not_true_eq_false, not_false_eq_true, wLc, wipeG, restG, keepD_none, keepD_d, keepD_iL, items_tup, items_lst, wYes, wTTup, wTCons, wTNil]
  refine ⟨by rw [List.length_map, List.length_range']; exact le1000 hl2, .l _, rfl, trivial, fun r hr => ?_⟩
  have hr : r = _ := hr
  rw [hr]
  unfold upP Sq.v
  rw [List.range_eq_range']
theorem lowP_len (p : List Int) : (lowP p).length = p.length := by
  unfold lowP
  split
  · rename_i e
    rw [e]
  · rw [List.length_map]
theorem lowP_bd {B : Nat} {p : List Int} (h : Bds B p) : Bds B (lowP p) := by
  unfold lowP
  split
  · exact Bds.nil
  · intro x hx
    obtain ⟨n, hn, rfl⟩ := List.mem_map.mp hx
    have hb := h n hn
    unfold Bd at *
    split
    · have := cont_nonneg p
      have e : n.fdiv (0 - contI p) = (-n).fdiv (contI p) := by
        rw [show (0 - contI p) = -(contI p) by omega, show n.fdiv (-contI p) = (- (-n)).fdiv (-(contI p)) by rw [Int.neg_neg], Int.neg_fdiv_neg]
      rw [e, Int.fdiv_eq_ediv_of_nonneg _ this]
      refine Nat.lt_of_le_of_lt (Int.natAbs_ediv_le_natAbs ..) ?_
      rw [Int.natAbs_neg]
      exact hb
    · rw [Int.fdiv_eq_ediv_of_nonneg _ (cont_nonneg p)]
      exact Nat.lt_of_le_of_lt (Int.natAbs_ediv_le_natAbs ..) hb
/-- one number alone is brought to 1 -/
theorem lowP_one {p : List Int} (h : p.length = 1) (h0 : lastI p ≠ 0) : lowP p = [1] := by
  match p, h with
  | [c], _ => 
    have hc : c ≠ 0 := h0
    have e : contI [c] = (c.natAbs : Int) := by
      show gcdI 0 c = _
      unfold gcdI
      rw [Int.gcd_zero_left]
    unfold lowP
    rw [if_neg (by simp), e]
    show [c.fdiv (if c < 0 then 0 - (c.natAbs : Int) else (c.natAbs : Int))] = [1]
    split
    · rw [show 0 - (c.natAbs : Int) = c by omega, Int.fdiv_self hc]
    · rw [show (c.natAbs : Int) = c by omega, Int.fdiv_self hc]
theorem polyOf_len (s : List Int) : (polyOf s).length = s.length + 1 := by
  unfold polyOf
  simp
theorem polyOf_last (s : List Int) : lastI (polyOf s) = 1 := by
  unfold lastI
  rw [polyOf_len, Nat.add_sub_cancel]
  unfold polyOf
  have := at0_last (xs := s.reverse.map fun n => 0 - n) (z := 1)
  rw [List.length_map, List.length_reverse] at this
  exact this
theorem polyOf_bd {B : Nat} {s : List Int} (h : Bds B s) (hB : 1 ≤ B) : Bds B (polyOf s) := by
  intro x hx
  unfold polyOf at hx
  rcases List.mem_append.mp hx with hx | hx
  · obtain ⟨n, hn, rfl⟩ := List.mem_map.mp hx
    have := (h n (List.mem_reverse.mp hn)).neg
    rw [Int.zero_sub]
    exact this
  · rw [List.mem_singleton.mp hx]
    exact Nat.one_lt_two_pow (by omega)
theorem upP_len (s f : List Int) : (upP s f).length ≤ f.length := by
  unfold upP
  refine Nat.le_trans (trimP_len _) ?_
  rw [List.length_reverse, List.length_map, List.length_range]
  exact Nat.le_refl _
theorem upP_bd {B : Nat} {s f : List Int} (hs : Bds B s) (hf : Bds B f) : Bds (2 * B + f.length + 1) (upP s f) := by
  intro x hx
  have hx := trimP_sub _ x hx
  obtain ⟨i, hi, rfl⟩ := List.mem_map.mp (List.mem_reverse.mp hx)
  have hi := List.mem_range.mp hi
  unfold upAt
  have h1 : Bd (2 * B + i) ((List.range i).map fun j => at0 s j * at0 f (i - 1 - j)).sum := by
    have := Bds.sum (m := 2 * B) (xs := (List.range i).map fun j => at0 s j * at0 f (i - 1 - j)) (fun y hy => by
      obtain ⟨j, _, rfl⟩ := List.mem_map.mp hy
      exact ((hs.at0 j).mul (hf.at0 _)).mono (by omega))
    rw [List.length_map, List.length_range] at this
    exact this
  exact (Bd.sub ((hf.at0 i).mono (by omega)) h1).mono (by omega)
end RT
end
section
set_option autoImplicit false
namespace RT
open PySem PySem.Spec PyProof.Rows L2 DL
theorem divS_keeps (q : List Int) : ∀ (n : Nat) (bs l : List Int) (t : Nat), n ≤ t → at0 (divS q n bs l).1 t = at0 bs t
  | 0, _, _, _, _ => rfl
  | n + 1, bs, l, t, h => by
    rw [divS, divS_keeps q n _ _ t (by omega), at0_set, if_neg (by omega)]
theorem divS_top (q : List Int) (n : Nat) (bs l : List Int) (h : n < bs.length) : at0 (divS q (n + 1) bs l).1 n = at0 l (n + q.length - 1) := by
  rw [divS, divS_keeps q n _ _ n (Nat.le_refl _), at0_set, if_pos ⟨rfl, h⟩]
theorem own_len {p q : List Int} (hq : 1 ≤ q.length) (hl : q.length ≤ p.length) (h1 : lastI p ≠ 0) : (trimP (divP p q).1).length = p.length + 1 - q.length ∧ lastI (trimP (divP p q).1) = lastI p := by
  obtain ⟨n, hn⟩ : ∃ n, p.length + 1 - q.length = n + 1 := ⟨p.length - q.length, by omega⟩
  have hlen : (divP p q).1.length = n + 1 := by
    unfold divP
    rw [(divS_len q _ _ _).1, List.length_replicate, hn]
  have htop : lastI (divP p q).1 = lastI p := by
    unfold lastI
    rw [hlen, Nat.add_sub_cancel]
    unfold divP
    rw [hn, divS_top q n _ _ (by rw [List.length_replicate]; omega), show n + q.length - 1 = p.length - 1 by omega]
  have ht := trim_iff.mpr (.inr (by rw [htop]; exact h1) : (divP p q).1 = [] ∨ lastI (divP p q).1 ≠ 0)
  rw [ht]
  exact ⟨by rw [hlen, hn], htop⟩
/-- what the rounds give, for a row that may be told -/
theorem row_common {s f : List Int} (h : okRow s f) : ∃ Z, S_common.pre (polyOf s, upP s f) ∧ Bds Z (polyOf s) ∧ 1 ≤ (CM (polyOf s) (upP s f)).length ∧ (CM (polyOf s) (upP s f)).length ≤ s.length + 1 ∧
    S_divided.pre (polyOf s, CM (polyOf s) (upP s f)) := by
  obtain ⟨hl, h20, B, hs, hf, hB⟩ := h
  have hup := upP_len s f
  have hbp : Bds (2 * B + s.length + 2) (polyOf s) := polyOf_bd (hs.mono (by omega)) (by omega)
  have hbu : Bds (2 * B + s.length + 2) (upP s f) := (upP_bd hs hf).mono (by omega)
  have hz : (2 * B + s.length + 2 + 1) * 5 ^ (polyOf s).length ≤ 134217728 := by
    rw [polyOf_len]
    exact hB
  have hlen := polyOf_len s
  have tp : trimP (polyOf s) = polyOf s := trim_iff.mpr (.inr (by rw [polyOf_last]; decide))
  have tu : trimP (upP s f) = upP s f := trim_idem _
  obtain ⟨g1, g2, g3, Y, hY, hYz⟩ := cmF_keeps ((upP s f).length + 1) (polyOf s) (upP s f) (2 * B + s.length + 2) (by omega) (by omega) (by omega) (by omega) tp tu hbp hbu hz
  have eL : (CM (polyOf s) (upP s f)).length = (cmF ((upP s f).length + 1) (polyOf s) (upP s f)).length := lowP_len _
  refine ⟨2 * B + s.length + 2, ⟨by show 1 ≤ (polyOf s).length; omega, by show (polyOf s).length ≤ 100; omega, by show (upP s f).length < (polyOf s).length; omega, tp, tu, _, hbp, hbu, hz⟩, hbp, by omega, by omega, by show 1 ≤ (CM (polyOf s) (upP s f)).length; omega, by show (polyOf s).length ≤ 100; omega, by show (CM (polyOf s) (upP s f)).length ≤ 100; omega, ?_⟩
  have g3' := (trim_iff.mp g3).resolve_left (fun e => by rw [e] at g1; simp at g1)
  by_cases h1 : (cmF ((upP s f).length + 1) (polyOf s) (upP s f)).length = 1
  · have e1 : CM (polyOf s) (upP s f) = [1] := lowP_one h1 g3'
    refine ⟨2 * B + s.length + 2, 1, hbp, ?_, ?_⟩
    · show Bds 1 (CM (polyOf s) (upP s f))
      rw [e1]
      intro x hx
      rw [List.mem_singleton.mp hx]
      exact (by decide : (1 : Nat) < 2 ^ 1)
    · show 2 * B + s.length + 2 + ((polyOf s).length + 1 - (CM (polyOf s) (upP s f)).length + 1) * (1 + 1) ≤ 134217728
      have : 5 ^ 1 ≤ 5 ^ (s.length + 1) := Nat.pow_le_pow_right (by decide) (by omega)
      have : (2 * B + s.length + 3) * 5 ^ 1 ≤ (2 * B + s.length + 3) * 5 ^ (s.length + 1) := Nat.mul_le_mul_left _ this
      omega
  · refine ⟨2 * B + s.length + 2, Y, hbp, lowP_bd hY, ?_⟩
    show 2 * B + s.length + 2 + ((polyOf s).length + 1 - (CM (polyOf s) (upP s f)).length + 1) * (Y + 1) ≤ 134217728
    have h2 : 5 ^ 2 ≤ 5 ^ (s.length + 1) := Nat.pow_le_pow_right (by decide) (by omega)
    have h3 : (2 * B + s.length + 3) * 5 ^ 2 ≤ (2 * B + s.length + 3) * 5 ^ (s.length + 1) := Nat.mul_le_mul_left _ h2
    have h4 : 5 ^ 2 ≤ 5 ^ (cmF ((upP s f).length + 1) (polyOf s) (upP s f)).length := Nat.pow_le_pow_right (by decide) (by omega)
    have h5 : (Y + 1) * 5 ^ 2 ≤ (Y + 1) * 5 ^ (cmF ((upP s f).length + 1) (polyOf s) (upP s f)).length := Nat.mul_le_mul_left _ h4
    have h6 : ((polyOf s).length + 1 - (CM (polyOf s) (upP s f)).length + 1) * (Y + 1) ≤ 21 * (Y + 1) := Nat.mul_le_mul_right _ (by omega)
    omega
theorem WK_least : ∀ x, S_least.pre x → W_least (endsD (S_least.post x)) (startG 3 (S_least.args x)) := by
  rintro ⟨s, f⟩ h
  have h : okRow s f := h
  obtain ⟨Z, c1, c2, c3, c4, c5⟩ := row_common h
  obtain ⟨hl, h20, B, hs, hf, hB⟩ := h
  have hl : f.length = s.length := hl
  have h20 : s.length ≤ 20 := h20
  have hs : Bds B s := hs
  have hf : Bds B f := hf
  have hlen := polyOf_len s
  obtain ⟨o1, o2⟩ := own_len c3 (by omega) (by rw [polyOf_last]; decide : lastI (polyOf s) ≠ 0)
  simp only [W_least, S_least, wSeq, wSet, wAsg, wExpr, wRet, wIf, wTest, wNotT, wAndT, wOrT, wIfE, w1, w2, wn, wNil, wCons, wVar, varK_iL, varK_d, wC, wLst, wTup, wQ, qVar_eq, qvO_iL, qvO_d, qC, qI, qNeg, qLen, wNext, takesOf, take_al, take_t, takeO_iL, frzsOf, frzOf, datsOf, datOf, on1, on2, put_t, put_al, putO_iL, toD_iL, toD_d, flat_iL, flat_d, lst_nil, lst_one, lst_iE, lst_iD, nil_dT, nil_dL, fList_dL, fList_dT, fTuple_dL, fTuple_dT, fLen_dL, fLen_dT, fSum_dL, fCat_dL, fCat_int, fRep_dL, fRep_int, fSub_int, fMod_int, fDiv_int, fLt_int, fLe_int, fGt_int, fGe_int, fNeg_int, fAbs_int, fMax2_int, fMin2_int, fInt_int, fInt_bool, fSl_dL, fSl_dT, fSl3_dL, fSl3_dT, fEq_int, fNe_int, fEq_dL, fNe_dL, fEq_dT, fNe_dT, items_dL, items_dT, wSl, wSl3, wNo, wPart, wSq_eq, sqK_t, sqK_al, sqO_iL, qIx_eq, qIxK, lstAt_eq, lstO_iL, DL.placeOf, T.get, core_d, re_iL, re_d, T.put, List.getElem?_cons_zero, List.getElem?_cons_succ, List.set_cons_zero, List.set_cons_succ, List.length_cons, List.length_nil, iD_len, iE_len, and_true, true_and, Bool.not_true, Bool.not_false, if_true, if_false, Bool.false_eq_true, decide_eq_true_eq, Bool.not_eq_true', decide_eq_false_iff_not, wFor, wRng1, wRng2, wRng3, wName, endsD, startG, List.map_cons, List.map_nil, List.replicate, List.cons_append, List.nil_append, look, wCall, Option.some.injEq, exists_eq_left', wPar, DL.putAt, wSetQ, wApp_eq, appO_iL, isLst_iL, wPop_eq, popO_iL, Nat.zero_le, not_true_eq_false, not_false_eq_true, wLc, wipeG, restG, keepD_none, keepD_d, keepD_iL, items_tup, items_lst, wYes, wTTup, wTCons, wTNil]
  refine ⟨(s, f), rfl, by show s.length ≤ 1000; omega, fun r hr => ?_⟩
  have hr : r = .d (dT (polyOf s)) := hr
  subst hr
  simp only [wSeq, wSet, wAsg, wExpr, wRet, wIf, wTest, wNotT, wAndT, wOrT, wIfE, w1, w2, wn, wNil, wCons, wVar, varK_iL, varK_d, wC, wLst, wTup, wQ, qVar_eq, qvO_iL, qvO_d, qC, qI, qNeg, qLen, wNext, takesOf, take_al, take_t, takeO_iL, frzsOf, frzOf, datsOf, datOf, on1, on2, put_t, put_al, putO_iL, toD_iL, toD_d, flat_iL, flat_d, lst_nil, lst_one, lst_iE, lst_iD, nil_dT, nil_dL, fList_dL, fList_dT, fTuple_dL, fTuple_dT, fLen_dL, fLen_dT, fSum_dL, fCat_dL, fCat_int, fRep_dL, fRep_int, fSub_int, fMod_int, fDiv_int, fLt_int, fLe_int, fGt_int, fGe_int, fNeg_int, fAbs_int, fMax2_int, fMin2_int, fInt_int, fInt_bool, fSl_dL, fSl_dT, fSl3_dL, fSl3_dT, fEq_int, fNe_int, fEq_dL, fNe_dL, fEq_dT, fNe_dT, items_dL, items_dT, wSl, wSl3, wNo, wPart, wSq_eq, sqK_t, sqK_al, sqO_iL, qIx_eq, qIxK, lstAt_eq, lstO_iL, DL.placeOf, T.get, core_d, re_iL, re_d, T.put, List.getElem?_cons_zero, List.getElem?_cons_succ, List.set_cons_zero, List.set_cons_succ, List.length_cons, List.length_nil, iD_len, iE_len, and_true, true_and, Bool.not_true, Bool.not_false, if_true, if_false, Bool.false_eq_true, decide_eq_true_eq, Bool.not_eq_true', decide_eq_false_iff_not, wFor, wRng1, wRng2, wRng3, wName, endsD, startG, List.map_cons, List.map_nil, List.replicate, List.cons_append, List.nil_append, look, wCall, Option.some.injEq, exists_eq_left', wPar, DL.putAt, wSetQ, wApp_eq, appO_iL, isLst_iL, wPop_eq, popO_iL, Nat.zero_le, not_true_eq_false, not_false_eq_true, wLc, wipeG, restG, keepD_none, keepD_d, keepD_iL, items_tup, items_lst, wYes, wTTup, wTCons, wTNil]
  refine ⟨by decide, (s, f), rfl, ⟨by show f.length ≤ s.length; omega, by show f.length ≤ 1000; omega, B, hs, hf, ?_⟩, fun r hr => ?_⟩
  · have h2 : 5 ^ 1 ≤ 5 ^ (s.length + 1) := Nat.pow_le_pow_right (by decide) (by omega)
    have h3 : (2 * B + s.length + 3) * 5 ^ 1 ≤ (2 * B + s.length + 3) * 5 ^ (s.length + 1) := Nat.mul_le_mul_left _ h2
    have hB : (2 * B + s.length + 3) * 5 ^ (s.length + 1) ≤ 134217728 := hB
    omega
  have hr : r = .d (dT (upP s f)) := hr
  subst hr
  simp only [wSeq, wSet, wAsg, wExpr, wRet, wIf, wTest, wNotT, wAndT, wOrT, wIfE, w1, w2, wn, wNil, wCons, wVar, varK_iL, varK_d, wC, wLst, wTup, wQ, qVar_eq, qvO_iL, qvO_d, qC, qI, qNeg, qLen, wNext, takesOf, take_al, take_t, takeO_iL, frzsOf, frzOf, datsOf, datOf, on1, on2, put_t, put_al, putO_iL, toD_iL, toD_d, flat_iL, flat_d, lst_nil, lst_one, lst_iE, lst_iD, nil_dT, nil_dL, fList_dL, fList_dT, fTuple_dL, fTuple_dT, fLen_dL, fLen_dT, fSum_dL, fCat_dL, fCat_int, fRep_dL, fRep_int, fSub_int, fMod_int, fDiv_int, fLt_int, fLe_int, fGt_int, fGe_int, fNeg_int, fAbs_int, fMax2_int, fMin2_int, fInt_int, fInt_bool, fSl_dL, fSl_dT, fSl3_dL, fSl3_dT, fEq_int, fNe_int, fEq_dL, fNe_dL, fEq_dT, fNe_dT, items_dL, items_dT, wSl, wSl3, wNo, wPart, wSq_eq, sqK_t, sqK_al, sqO_iL, qIx_eq, qIxK, lstAt_eq, lstO_iL, DL.placeOf, T.get, core_d, re_iL, re_d, T.put, List.getElem?_cons_zero, List.getElem?_cons_succ, List.set_cons_zero, List.set_cons_succ, List.length_cons, List.length_nil, iD_len, iE_len, and_true, true_and, Bool.not_true, Bool.not_false, if_true, if_false, Bool.false_eq_true, decide_eq_true_eq, Bool.not_eq_true', decide_eq_false_iff_not, wFor, wRng1, wRng2, wRng3, wName, endsD, startG, List.map_cons, List.map_nil, List.replicate, List.cons_append, List.nil_append, look, wCall, Option.some.injEq, exists_eq_left', wPar, DL.putAt, wSetQ, wApp_eq, appO_iL, isLst_iL, wPop_eq, popO_iL, Nat.zero_le, not_true_eq_false, not_false_eq_true, wLc, wipeG, restG, keepD_none, keepD_d, keepD_iL, items_tup, items_lst, wYes, wTTup, wTCons, wTNil]
  refine ⟨(polyOf s, upP s f), rfl, c1, fun r hr => ?_⟩
  have hr : r = .d (dT (CM (polyOf s) (upP s f))) := hr
  subst hr
  simp only [wSeq, wSet, wAsg, wExpr, wRet, wIf, wTest, wNotT, wAndT, wOrT, wIfE, w1, w2, wn, wNil, wCons, wVar, varK_iL, varK_d, wC, wLst, wTup, wQ, qVar_eq, qvO_iL, qvO_d, qC, qI, qNeg, qLen, wNext, takesOf, take_al, take_t, takeO_iL, frzsOf, frzOf, datsOf, datOf, on1, on2, put_t, put_al, putO_iL, toD_iL, toD_d, flat_iL, flat_d, lst_nil, lst_one, lst_iE, lst_iD, nil_dT, nil_dL, fList_dL, fList_dT, fTuple_dL, fTuple_dT, fLen_dL, fLen_dT, fSum_dL, fCat_dL, fCat_int, fRep_dL, fRep_int, fSub_int, fMod_int, fDiv_int, fLt_int, fLe_int, fGt_int, fGe_int, fNeg_int, fAbs_int, fMax2_int, fMin2_int, fInt_int, fInt_bool, fSl_dL, fSl_dT, fSl3_dL, fSl3_dT, fEq_int, fNe_int, fEq_dL, fNe_dL, fEq_dT, fNe_dT, items_dL, items_dT, wSl, wSl3, wNo, wPart, wSq_eq, sqK_t, sqK_al, sqO_iL, qIx_eq, qIxK, lstAt_eq, lstO_iL, DL.placeOf, T.get, core_d, re_iL, re_d, T.put, List.getElem?_cons_zero, List.getElem?_cons_succ, List.set_cons_zero, List.set_cons_succ, List.length_cons, List.length_nil, iD_len, iE_len, and_true, true_and, Bool.not_true, Bool.not_false, if_true, if_false, Bool.false_eq_true, decide_eq_true_eq, Bool.not_eq_true', decide_eq_false_iff_not, wFor, wRng1, wRng2, wRng3, wName, endsD, startG, List.map_cons, List.map_nil, List.replicate, List.cons_append, List.nil_append, look, wCall, Option.some.injEq, exists_eq_left', wPar, DL.putAt, wSetQ, wApp_eq, appO_iL, isLst_iL, wPop_eq, popO_iL, Nat.zero_le, not_true_eq_false, not_false_eq_true, wLc, wipeG, restG, keepD_none, keepD_d, keepD_iL, items_tup, items_lst, wYes, wTTup, wTCons, wTNil]
  refine ⟨(polyOf s, CM (polyOf s) (upP s f)), rfl, c5, fun r hr => ?_⟩
  have hr : r = .d (.tuple [dT (trimP (divP (polyOf s) (CM (polyOf s) (upP s f))).1), dT (trimP (divP (polyOf s) (CM (polyOf s) (upP s f))).2)]) := hr
  subst hr
  simp only [wSeq, wSet, wAsg, wExpr, wRet, wIf, wTest, wNotT, wAndT, wOrT, wIfE, w1, w2, wn, wNil, wCons, wVar, varK_iL, varK_d, wC, wLst, wTup, wQ, qVar_eq, qvO_iL, qvO_d, qC, qI, qNeg, qLen, wNext, takesOf, take_al, take_t, takeO_iL, frzsOf, frzOf, datsOf, datOf, on1, on2, put_t, put_al, putO_iL, toD_iL, toD_d, flat_iL, flat_d, lst_nil, lst_one, lst_iE, lst_iD, nil_dT, nil_dL, fList_dL, fList_dT, fTuple_dL, fTuple_dT, fLen_dL, fLen_dT, fSum_dL, fCat_dL, fCat_int, fRep_dL, fRep_int, fSub_int, fMod_int, fDiv_int, fLt_int, fLe_int, fGt_int, fGe_int, fNeg_int, fAbs_int, fMax2_int, fMin2_int, fInt_int, fInt_bool, fSl_dL, fSl_dT, fSl3_dL, fSl3_dT, fEq_int, fNe_int, fEq_dL, fNe_dL, fEq_dT, fNe_dT, items_dL, items_dT, wSl, wSl3, wNo, wPart, wSq_eq, sqK_t, sqK_al, sqO_iL, qIx_eq, qIxK, lstAt_eq, lstO_iL, DL.placeOf, T.get, core_d, re_iL, re_d, T.put, List.getElem?_cons_zero, List.getElem?_cons_succ, List.set_cons_zero, List.set_cons_succ, List.length_cons, List.length_nil, iD_len, iE_len, and_true, true_and, Bool.not_true, Bool.not_false, if_true, if_false, Bool.false_eq_true, decide_eq_true_eq, Bool.not_eq_true', decide_eq_false_iff_not, wFor, wRng1, wRng2, wRng3, wName, endsD, startG, List.map_cons, List.map_nil, List.replicate, List.cons_append, List.nil_append, look, wCall, Option.some.injEq, exists_eq_left', wPar, DL.putAt, wSetQ, wApp_eq, appO_iL, isLst_iL, wPop_eq, popO_iL, Nat.zero_le, not_true_eq_false, not_false_eq_true, wLc, wipeG, restG, keepD_none, keepD_d, keepD_iL, items_tup, items_lst, wYes, wTTup, wTCons, wTNil, fIx, atI_0, atI_1, items_row]
  refine ⟨by decide, (trimP (divP (polyOf s) (CM (polyOf s) (upP s f))).1, .t f), rfl, ⟨by show 1 ≤ (trimP (divP (polyOf s) (CM (polyOf s) (upP s f))).1).length; omega, by show (trimP (divP (polyOf s) (CM (polyOf s) (upP s f))).1).length ≤ 1000; omega⟩, fun r hr => ?_⟩
  exact hr
theorem WK_by : ∀ x, S_by.pre x → W_by (endsD (S_by.post x)) (startG 2 (S_by.args x)) := by
  rintro ⟨p, q⟩ ⟨h1, h2⟩
  have h1 : 1 ≤ p.length := h1
  have h2 : okRow (toldS p) (q.v.take (p.length - 1)) := h2
  have hp : p.length ≤ 1000 := by
    obtain ⟨_, h20, _⟩ := h2
    unfold toldS at h20
    rw [List.length_map, List.length_reverse, List.length_dropLast] at h20
    omega
  cases q with
  | l xs =>
    simp only [W_by, S_by, wSeq, wSet, wAsg, wExpr, wRet, wIf, wTest, wNotT, wAndT, wOrT, wIfE, w1, w2, wn, wNil, wCons, wVar, varK_iL, varK_d, wC, wLst, wTup, wQ, qVar_eq, qvO_iL, qvO_d, qC, qI, qNeg, qLen, wNext, takesOf, take_al, take_t, takeO_iL, frzsOf, frzOf, datsOf, datOf, on1, on2, put_t, put_al, putO_iL, toD_iL, toD_d, flat_iL, flat_d, lst_nil, lst_one, lst_iE, lst_iD, nil_dT, nil_dL, fList_dL, fList_dT, fTuple_dL, fTuple_dT, fLen_dL, fLen_dT, fSum_dL, fCat_dL, fCat_int, fRep_dL, fRep_int, fSub_int, fMod_int, fDiv_int, fLt_int, fLe_int, fGt_int, fGe_int, fNeg_int, fAbs_int, fMax2_int, fMin2_int, fInt_int, fInt_bool, fSl_dL, fSl_dT, fSl3_dL, fSl3_dT, fEq_int, fNe_int, fEq_dL, fNe_dL, fEq_dT, fNe_dT, items_dL, items_dT, wSl, wSl3, wNo, wPart, wSq_eq, sqK_t, sqK_al, sqO_iL, qIx_eq, qIxK, lstAt_eq, lstO_iL, DL.placeOf, T.get, core_d, re_iL, re_d, T.put, List.getElem?_cons_zero, List.getElem?_cons_succ, List.set_cons_zero, List.set_cons_succ, List.length_cons, List.length_nil, iD_len, iE_len, and_true, true_and, Bool.not_true, Bool.not_false, if_true, if_false, Bool.false_eq_true, decide_eq_true_eq, Bool.not_eq_true', decide_eq_false_iff_not, wFor, wRng1, wRng2, wRng3, wName, endsD, startG, List.map_cons, List.map_nil, List.replicate, List.cons_append, List.nil_append, look, wCall, Option.some.injEq, exists_eq_left', wPar, DL.putAt, wSetQ, wApp_eq, appO_iL, isLst_iL, wPop_eq, popO_iL, Nat.zero_le, not_true_eq_false, not_false_eq_true, wLc, wipeG, restG, keepD_none, keepD_d, keepD_iL, items_tup, items_lst, wYes, wTTup, wTCons, wTNil, Sq.d]
    refine ⟨(p, .l xs), rfl, ⟨h1, hp⟩, fun r hr => ?_⟩
    have hr : r = .d (rowD (toldS p) (xs.take (p.length - 1))) := hr
    subst hr
    simp only [wSeq, wSet, wAsg, wExpr, wRet, wIf, wTest, wNotT, wAndT, wOrT, wIfE, w1, w2, wn, wNil, wCons, wVar, varK_iL, varK_d, wC, wLst, wTup, wQ, qVar_eq, qvO_iL, qvO_d, qC, qI, qNeg, qLen, wNext, takesOf, take_al, take_t, takeO_iL, frzsOf, frzOf, datsOf, datOf, on1, on2, put_t, put_al, putO_iL, toD_iL, toD_d, flat_iL, flat_d, lst_nil, lst_one, lst_iE, lst_iD, nil_dT, nil_dL, fList_dL, fList_dT, fTuple_dL, fTuple_dT, fLen_dL, fLen_dT, fSum_dL, fCat_dL, fCat_int, fRep_dL, fRep_int, fSub_int, fMod_int, fDiv_int, fLt_int, fLe_int, fGt_int, fGe_int, fNeg_int, fAbs_int, fMax2_int, fMin2_int, fInt_int, fInt_bool, fSl_dL, fSl_dT, fSl3_dL, fSl3_dT, fEq_int, fNe_int, fEq_dL, fNe_dL, fEq_dT, fNe_dT, items_dL, items_dT, wSl, wSl3, wNo, wPart, wSq_eq, sqK_t, sqK_al, sqO_iL, qIx_eq, qIxK, lstAt_eq, lstO_iL, DL.placeOf, T.get, core_d, re_iL, re_d, T.put, List.getElem?_cons_zero, List.getElem?_cons_succ, List.set_cons_zero, List.set_cons_succ, List.length_cons, List.length_nil, iD_len, iE_len, and_true, true_and, Bool.not_true, Bool.not_false, if_true, if_false, Bool.false_eq_true, decide_eq_true_eq, Bool.not_eq_true', decide_eq_false_iff_not, wFor, wRng1, wRng2, wRng3, wName, endsD, startG, List.map_cons, List.map_nil, List.replicate, List.cons_append, List.nil_append, look, wCall, Option.some.injEq, exists_eq_left', wPar, DL.putAt, wSetQ, wApp_eq, appO_iL, isLst_iL, wPop_eq, popO_iL, Nat.zero_le, not_true_eq_false, not_false_eq_true, wLc, wipeG, restG, keepD_none, keepD_d, keepD_iL, items_tup, items_lst, wYes, wTTup, wTCons, wTNil]
    exact ⟨(_, _), rfl, h2, fun r hr => hr⟩
  | t xs =>
    simp only [W_by, S_by, wSeq, wSet, wAsg, wExpr, wRet, wIf, wTest, wNotT, wAndT, wOrT, wIfE, w1, w2, wn, wNil, wCons, wVar, varK_iL, varK_d, wC, wLst, wTup, wQ, qVar_eq, qvO_iL, qvO_d, qC, qI, qNeg, qLen, wNext, takesOf, take_al, take_t, takeO_iL, frzsOf, frzOf, datsOf, datOf, on1, on2, put_t, put_al, putO_iL, toD_iL, toD_d, flat_iL, flat_d, lst_nil, lst_one, lst_iE, lst_iD, nil_dT, nil_dL, fList_dL, fList_dT, fTuple_dL, fTuple_dT, fLen_dL, fLen_dT, fSum_dL, fCat_dL, fCat_int, fRep_dL, fRep_int, fSub_int, fMod_int, fDiv_int, fLt_int, fLe_int, fGt_int, fGe_int, fNeg_int, fAbs_int, fMax2_int, fMin2_int, fInt_int, fInt_bool, fSl_dL, fSl_dT, fSl3_dL, fSl3_dT, fEq_int, fNe_int, fEq_dL, fNe_dL, fEq_dT, fNe_dT, items_dL, items_dT, wSl, wSl3, wNo, wPart, wSq_eq, sqK_t, sqK_al, sqO_iL, qIx_eq, qIxK, lstAt_eq, lstO_iL, DL.placeOf, T.get, core_d, re_iL, re_d, T.put, List.getElem?_cons_zero, List.getElem?_cons_succ, List.set_cons_zero, List.set_cons_succ, List.length_cons, List.length_nil, iD_len, iE_len, and_true, true_and, Bool.not_true, Bool.not_false, if_true, if_false, Bool.false_eq_true, decide_eq_true_eq, Bool.not_eq_true', decide_eq_false_iff_not, wFor, wRng1, wRng2, wRng3, wName, endsD, startG, List.map_cons, List.map_nil, List.replicate, List.cons_append, List.nil_append, look, wCall, Option.some.injEq, exists_eq_left', wPar, DL.putAt, wSetQ, wApp_eq, appO_iL, isLst_iL, wPop_eq, popO_iL, Nat.zero_le, not_true_eq_false, not_false_eq_true, wLc, wipeG, restG, keepD_none, keepD_d, keepD_iL, items_tup, items_lst, wYes, wTTup, wTCons, wTNil, Sq.d]
    refine ⟨(p, .t xs), rfl, ⟨h1, hp⟩, fun r hr => ?_⟩
    have hr : r = .d (rowD (toldS p) (xs.take (p.length - 1))) := hr
    subst hr
    simp only [wSeq, wSet, wAsg, wExpr, wRet, wIf, wTest, wNotT, wAndT, wOrT, wIfE, w1, w2, wn, wNil, wCons, wVar, varK_iL, varK_d, wC, wLst, wTup, wQ, qVar_eq, qvO_iL, qvO_d, qC, qI, qNeg, qLen, wNext, takesOf, take_al, take_t, takeO_iL, frzsOf, frzOf, datsOf, datOf, on1, on2, put_t, put_al, putO_iL, toD_iL, toD_d, flat_iL, flat_d, lst_nil, lst_one, lst_iE, lst_iD, nil_dT, nil_dL, fList_dL, fList_dT, fTuple_dL, fTuple_dT, fLen_dL, fLen_dT, fSum_dL, fCat_dL, fCat_int, fRep_dL, fRep_int, fSub_int, fMod_int, fDiv_int, fLt_int, fLe_int, fGt_int, fGe_int, fNeg_int, fAbs_int, fMax2_int, fMin2_int, fInt_int, fInt_bool, fSl_dL, fSl_dT, fSl3_dL, fSl3_dT, fEq_int, fNe_int, fEq_dL, fNe_dL, fEq_dT, fNe_dT, items_dL, items_dT, wSl, wSl3, wNo, wPart, wSq_eq, sqK_t, sqK_al, sqO_iL, qIx_eq, qIxK, lstAt_eq, lstO_iL, DL.placeOf, T.get, core_d, re_iL, re_d, T.put, List.getElem?_cons_zero, List.getElem?_cons_succ, List.set_cons_zero, List.set_cons_succ, List.length_cons, List.length_nil, iD_len, iE_len, and_true, true_and, Bool.not_true, Bool.not_false, if_true, if_false, Bool.false_eq_true, decide_eq_true_eq, Bool.not_eq_true', decide_eq_false_iff_not, wFor, wRng1, wRng2, wRng3, wName, endsD, startG, List.map_cons, List.map_nil, List.replicate, List.cons_append, List.nil_append, look, wCall, Option.some.injEq, exists_eq_left', wPar, DL.putAt, wSetQ, wApp_eq, appO_iL, isLst_iL, wPop_eq, popO_iL, Nat.zero_le, not_true_eq_false, not_false_eq_true, wLc, wipeG, restG, keepD_none, keepD_d, keepD_iL, items_tup, items_lst, wYes, wTTup, wTCons, wTNil]
    exact ⟨(_, _), rfl, h2, fun r hr => hr⟩
end RT
end
section
set_option autoImplicit false
/-! DL18: tables. -/
namespace DL
open PySem PySem.Spec PyProof.Rows L2
def tT (A : List (List Int)) : PyData := .tuple (A.map dT)
def tL (A : List (List Int)) : PyData := .list (A.map dL)
def iLL (A : List (List Int)) : T := .lst (A.map iL)
section
variable {A : List (List Int)} {i : Nat} {k : Tm → Prop}
theorem toDs_iL : ∀ A : List (List Int), T.toDs (A.map iL) = some (A.map dL)
  | [] => by rw [List.map_nil, T.toDs, List.map_nil]
  | x :: xs => by rw [List.map_cons, T.toDs, toD_iL, toDs_iL xs, List.map_cons]
theorem toD_iLL : (iLL A).toD = some (tL A) := by
  unfold iLL tL
  rw [T.toD, toDs_iL]
  rfl
theorem core_iLL : (iLL A).core = .lst (A.map iL) := rfl
theorem varK_iLL : varK i k (some (some (iLL A))) = k (.al i) := rfl
theorem qvO_iLL : qvO i (some (some (iLL A))) = some (.pl i []) := rfl
theorem lstO_iLL : lstO (some (iLL A)) = some (A.map iL) := rfl
theorem re_iLL {y : T} : (iLL A).re y = y := rfl
theorem lst_iLL : T.lst (A.map iL) = iLL A := rfl
theorem items_tT : itemsD (tT A) = some (A.map dT) := rfl
theorem items_tL : itemsD (tL A) = some (A.map dL) := rfl
theorem takeO_iLL {G : Gm} : takeO G i (some (some (iLL A))) = some (.d (tL A), G.set i (some (.d (tL A)))) := by
  show (match (iLL A).toD with
    | some d => some (T.d d, G.set i (some (.d d)))
    | none => none) = _
  rw [toD_iLL]
theorem putO_iLL {j : Nat} {G : Gm} {k : Gm → Prop} : putO i j G k (some (some (iLL A))) = (i < G.length ∧ k ((G.set j none).set i (some (iLL A)))) := rfl
theorem sqO_iLL {G : Gm} {k : List PyData → Gm → Prop} : sqO i G k (some (some (iLL A))) = k (A.map dL) (G.set i (some (.d (tL A)))) := by
  show (match (iLL A).toD with
    | some d => match itemsD d with
      | some ds => k ds (G.set i (some (.d d)))
      | none => False
    | none => False) = _
  rw [toD_iLL]
  rfl
theorem keepD_iLL : keepD (some (some (iLL A))) = none := rfl
theorem get_iLL {j : Nat} {r : List Int} (h : A[j]? = some r) : (iLL A).get [.ix j] = some (iL r) := by
  unfold iLL
  rw [T.get, T.kid, List.getElem?_map, h]
  rfl
theorem put_iLL {j : Nat} {r r' : List Int} (h : A[j]? = some r) : (iLL A).put [.ix j] (iL r') = iLL (A.set j r') := by
  unfold iLL
  rw [T.put, T.kid, List.getElem?_map, h]
  show T.lst ((A.map iL).set j (iL r')) = _
  rw [List.map_set]
theorem qIxO_iLL {s j : Nat} {p : List Stp} {x : Int} {r : List Int} (h : x = (j : Int)) (h2 : A[j]? = some r) : qIxO s p x (some (A.map iL)) = some (.pl s (p ++ [.ix j])) := by
  unfold qIxO
  have hl := (List.getElem?_eq_some_iff.mp h2).1
  simp only [List.length_map, ixN_of h hl, List.getElem?_map, h2]
  rfl
theorem atI_map {α : Type} {f : List Int → α} {x : Int} {j : Nat} {r : List Int} (h : x = (j : Int)) (h2 : A[j]? = some r) : atI (A.map f) x = some (f r) := by
  have hl := (List.getElem?_eq_some_iff.mp h2).1
  unfold atI
  rw [List.length_map, ixN_of h hl]
  show (A.map f)[j]? = _
  rw [List.getElem?_map, h2]
  rfl
end
/-- a sequence of ints -/
def dotP (a b : List Int) : Int := (List.zipWith (fun x y => x * y) a b).sum
theorem zipD_iD : ∀ a b : List Int, zipD (iD a) (iD b) = List.zipWith (fun x y => PyData.tuple [.int x, .int y]) a b
  | [], _ => rfl
  | _ :: _, [] => rfl
  | x :: a, y :: b => by
    have := zipD_iD a b
    unfold zipD at this ⊢
    show PyData.tuple [.int x, .int y] :: List.zipWith _ (iD a) (iD b) = PyData.tuple [.int x, .int y] :: List.zipWith _ a b
    rw [this]
/-- the items of a comprehension over pairs -/
theorem lcW_pairs {g : WG} {tt : WT} {te : WE} {own : List Nat} {G : Gm} {k : List T → Gm → Prop} (h : Int → Int → Int) (a b : List Int)
    (hs : ∀ x ∈ a, ∀ y ∈ b, ∀ (R : T → Gm → Prop) (R2 : Gm → Prop), R (.d (.int (h x y))) G → g (.tuple [.int x, .int y]) G fun G2 => tt G2 fun c G3 => if c = true then te G3 fun y G4 => match takeOf G4 y with
      | some (ty, G5) => R ty (wipeG G5 own)
      | none => False else R2 (wipeG G3 own)) (hk : k (iE (List.zipWith h a b)) G) : lcW g tt te own (zipD (iD a) (iD b)) [] G k := by
  rw [zipD_iD]
  refine lcW_all (fun d => match d with
    | .tuple [.int x, .int y] => .d (.int (h x y))
    | _ => .d .none) _ [] (fun p hp R R2 hR => ?_) ?_
  · obtain ⟨i, hi, e⟩ := List.getElem_of_mem hp
    rw [List.getElem_zipWith] at e
    subst e
    exact hs _ (List.getElem_mem _) _ (List.getElem_mem _) R R2 hR
  · rw [List.nil_append]
    have e : (List.zipWith (fun x y => PyData.tuple [.int x, .int y]) a b).map (fun d => match d with
      | .tuple [.int x, .int y] => T.d (.int (h x y))
      | _ => T.d .none) = iE (List.zipWith h a b) := by
      unfold iE iD
      rw [List.map_zipWith, List.map_map, List.map_zipWith]
      rfl
    rw [e]
    exact hk
/-- rows -/
theorem lcW_rows {g : WG} {tt : WT} {te : WE} {own : List Nat} {G : Gm} {k : List T → Gm → Prop} (c : List Int → PyData) (hc : ∀ x y, c x = c y → x = y) (h : List Int → T) (A : List (List Int))
    (hs : ∀ r ∈ A, ∀ (R : T → Gm → Prop) (R2 : Gm → Prop), R (h r) G → g (c r) G fun G2 => tt G2 fun b G3 => if b = true then te G3 fun y G4 => match takeOf G4 y with
      | some (ty, G5) => R ty (wipeG G5 own)
      | none => False else R2 (wipeG G3 own)) (hk : k (A.map h) G) : lcW g tt te own (A.map c) [] G k := by
  have key : ∀ (B : List (List Int)) (acc : List T), (∀ r ∈ B, r ∈ A) → k (acc ++ B.map h) G → lcW g tt te own (B.map c) acc G k := by
    intro B
    induction B with
    | nil =>
      intro acc _ hk
      rw [List.map_nil, List.append_nil] at hk
      exact hk
    | cons r B ih =>
      intro acc hB hk
      rw [List.map_cons, lcW]
      refine hs r (hB r List.mem_cons_self) (fun ty G' => lcW g tt te own (B.map c) (acc ++ [ty]) G' k) (fun G' => lcW g tt te own (B.map c) acc G' k) ?_
      refine ih _ (fun q hq => hB q (List.mem_cons_of_mem _ hq)) ?_
      rw [List.append_assoc]
      exact hk
  exact key A [] (fun _ h => h) (by rw [List.nil_append]; exact hk)
theorem dT_inj {x y : List Int} (h : dT x = dT y) : x = y := iD_inj (PyData.tuple.inj h)
theorem dL_inj {x y : List Int} (h : dL x = dL y) : x = y := iD_inj (PyData.list.inj h)
/-- the state may change within S -/
theorem lcW_rowsS {g : WG} {tt : WT} {te : WE} {own : List Nat} {k : List T → Gm → Prop} (S : Gm → Prop) {α : Type} (c : α → PyData) (h : α → T) (A : List α) {G : Gm} (h0 : S G)
    (hs : ∀ r ∈ A, ∀ G, S G → ∀ (R : T → Gm → Prop) (R2 : Gm → Prop), (∀ G', S G' → R (h r) G') → g (c r) G fun G2 => tt G2 fun b G3 => if b = true then te G3 fun y G4 => match takeOf G4 y with
      | some (ty, G5) => R ty (wipeG G5 own)
      | none => False else R2 (wipeG G3 own)) (hk : ∀ G', S G' → k (A.map h) G') : lcW g tt te own (A.map c) [] G k := by
  have key : ∀ (B : List α) (acc : List T) (G : Gm), S G → (∀ r ∈ B, r ∈ A) → (∀ G', S G' → k (acc ++ B.map h) G') → lcW g tt te own (B.map c) acc G k := by
    intro B
    induction B with
    | nil =>
      intro acc G h0 _ hk
      have := hk G h0
      rw [List.map_nil, List.append_nil] at this
      exact this
    | cons r B ih =>
      intro acc G h0 hB hk
      rw [List.map_cons, lcW]
      refine hs r (hB r List.mem_cons_self) G h0 (fun ty G' => lcW g tt te own (B.map c) (acc ++ [ty]) G' k) (fun G' => lcW g tt te own (B.map c) acc G' k) fun G' h1 => ?_
      refine ih _ G' h1 (fun q hq => hB q (List.mem_cons_of_mem _ hq)) fun G' h2 => ?_
      rw [List.append_assoc]
      exact hk G' h2
  exact key A [] G h0 (fun _ h => h) fun G' h1 => by rw [List.nil_append]; exact hk G' h1
theorem map_iLL {α : Type} (f : α → List Int) (l : List α) : (l.map fun i => iL (f i)) = (l.map f).map iL := by
  rw [List.map_map]
  rfl
theorem map_iE' {α : Type} (f : α → Int) (l : List α) : (l.map fun j => T.d (.int (f j))) = iE (l.map f) := by
  unfold iE iD
  rw [List.map_map, List.map_map]
  rfl
theorem kid_iLL {A : List (List Int)} {j : Nat} {r : List Int} (h : A[j]? = some r) : (iLL A).kid (.ix j) = some (j, iL r) := by
  unfold iLL
  rw [T.kid, List.getElem?_map, h]
  rfl
theorem setKid_iLL {A : List (List Int)} {j : Nat} {r' : List Int} : (iLL A).setKid j (iL r') = iLL (A.set j r') := by
  show T.lst ((A.map iL).set j (iL r')) = _
  unfold iLL
  rw [List.map_set]
end DL
end
section
set_option autoImplicit false
namespace RT
open PySem PySem.Spec PyProof.Rows L2 DL
/-- a table: tuple of tuples, or list of lists -/
inductive Tb where
  | t (A : List (List Int))
  | l (A : List (List Int))
def Tb.d : Tb → PyData
  | .t A => tT A
  | .l A => tL A
def Tb.v : Tb → List (List Int)
  | .t A => A
  | .l A => A
def Bdt (B : Nat) (A : List (List Int)) : Prop := ∀ r ∈ A, Bds B r
def carryT (A : List (List Int)) (v : List Int) : List Int := A.map fun r => dotP r v
def S_carried : FS := ⟨Tb × Sq, fun x => [x.1.d, x.2.d], fun x => x.1.v.length ≤ 1000 ∧ (∀ r ∈ x.1.v, r.length ≤ 1000) ∧ ∃ B C, Bdt B x.1.v ∧ Bds C x.2.v ∧ B + C ≤ 134217728, fun x r => r = iL (carryT x.1.v x.2.v)⟩
def colsT (B : List (List Int)) : List (List Int) := (List.range B.length).map fun i => B.map fun r => at0 r i
def mulT (A B : List (List Int)) : List (List Int) := A.map fun r => (colsT B).map fun c => dotP r c
def S_multiplied_by : FS := ⟨Tb × List (List Int), fun x => [x.1.d, tL x.2], fun x => x.1.v.length ≤ 1000 ∧ (∀ r ∈ x.1.v, r.length ≤ 1000) ∧ x.2.length ≤ 1000 ∧ (∀ r ∈ x.2, r.length = x.2.length) ∧ ∃ B C, Bdt B x.1.v ∧ Bdt C x.2 ∧ B + C ≤ 134217728, fun x r => r = iLL (mulT x.1.v x.2)⟩
end RT
end
section
/-! printed by gen.py: what each def reads -/
namespace RT
open PySem PySem.Spec PyProof.Rows L2 DL
def E_carried_1 : WE := (w2 (wVar 2) (wVar 3) fRep)
def E_carried_2 : WE := (wn (wCons (wLc (wZp (wCons (wVar 4) (wCons (wVar 1) wNil))) (wTTup 2 (wTCons (wName 2) (wTCons (wName 3) wTNil))) wYes E_carried_1 [2, 3]) wNil) (on1 fSum))
def W_carried : WS := (wRet (wLc (wSq (wVar 0)) (wName 4) wYes E_carried_2 [4]))
def E_multiplied_by_1 : WE := (w2 (wVar 5) (wVar 6) fRep)
def E_multiplied_by_2 : WE := (wn (wCons (wLc (wZp (wCons (wVar 3) (wCons (wVar 7) wNil))) (wTTup 2 (wTCons (wName 5) (wTCons (wName 6) wTNil))) wYes E_multiplied_by_1 [5, 6]) wNil) (on1 fSum))
def E_multiplied_by_3 : WE := (wLc (wSq (wVar 2)) (wName 7) wYes E_multiplied_by_2 [7])
def E_multiplied_by_4 : WE := (wQ (qIx (qVar 3) (qVar 4)))
def E_multiplied_by_5 : WE := (wLc (wSq (wVar 1)) (wName 3) wYes E_multiplied_by_4 [3])
def W_multiplied_by : WS := (wSeq (wSet 2 (wLc (wRng1 (wCons (wQ (qLen (qVar 1))) wNil)) (wName 4) wYes E_multiplied_by_5 [4])) (wRet (wLc (wSq (wVar 0)) (wName 3) wYes E_multiplied_by_3 [3])))
end RT
end
section
set_option autoImplicit false
namespace RT
open PySem PySem.Spec PyProof.Rows L2 DL
theorem dot_bd {B C : Nat} {a b : List Int} (ha : Bds B a) (hb : Bds C b) : Bds (B + C) (List.zipWith (fun x y => x * y) a b) := by
  intro x hx
  obtain ⟨i, hi, e⟩ := List.getElem_of_mem hx
  rw [List.getElem_zipWith] at e
  rw [← e]
  exact (ha _ (List.getElem_mem _)).mul (hb _ (List.getElem_mem _))
theorem zip_len (a b : List Int) : (zipD (iD a) (iD b)).length ≤ a.length := by
  rw [zipD_iD, List.length_zipWith]
  omega
theorem rows_map (c : List Int → Int) (A : List (List Int)) : (A.map fun r => T.d (.int (c r))) = iE (A.map c) := by
  unfold iE iD
  rw [List.map_map, List.map_map]
  rfl
theorem WK_carried : ∀ x, S_carried.pre x → W_carried (endsD (S_carried.post x)) (startG 5 (S_carried.args x)) := by
  rintro ⟨A, v⟩ ⟨h1, h2, B, C, hB, hC, hBC⟩
  have inner : ∀ (r : List Int) (c : List Int → PyData) (d : PyData) (G : Gm) (a0 : PyData), (c = dT ∨ c = dL) → (d = dT v.v ∨ d = dL v.v) → r ∈ A.v → G = [some (.d a0), some (.d d), none, none, none] → ∀ (R : T → Gm → Prop) (R2 : Gm → Prop), R (.d (.int (dotP r v.v))) G →
      wName 4 (c r) G fun G2 => wYes G2 fun b G3 => if b = true then E_carried_2 G3 fun y G4 => match takeOf G4 y with
      | some (ty, G5) => R ty (wipeG G5 [4])
      | none => False else R2 (wipeG G3 [4]) := by
    intro r c d G a0 hc hd hr eG R R2 hR
    subst eG
    have fin : (zipD (iD r) (iD v.v)).length ≤ sizeLine := Nat.le_trans (zip_len _ _) (le1000 (h2 r hr))
    have goal : lcW (wTTup 2 (wTCons (wName 2) (wTCons (wName 3) wTNil))) wYes E_carried_1 [2, 3] (zipD (iD r) (iD v.v)) [] [some (.d a0), some (.d d), none, none, some (.d (c r))] fun acc G2 =>
        (match datsOf (restG [some (.d a0), some (.d d), none, none, some (.d (c r))] G2 [2, 3]) [.t (.lst acc)] with
        | some ds => on1 fSum ds fun r0 => match takeOf (restG [some (.d a0), some (.d d), none, none, some (.d (c r))] G2 [2, 3]) (.t r0) with
          | some (ty, G5) => R ty (wipeG G5 [4])
          | none => False
        | none => False) := by
      refine lcW_pairs (fun x y => x * y) r v.v (fun x hx y hy R R2 hR => ?_) ?_
      · simp only [E_carried_1, wSeq, wSet, wAsg, wExpr, wRet, wIf, wTest, wNotT, wAndT, wOrT, wIfE, w1, w2, wn, wNil, wCons, wVar, varK_iL, varK_d, wC, wLst, wTup, wQ, qVar_eq, qvO_iL, qvO_d, qC, qI, qNeg, qLen, wNext, takesOf, take_al, take_t, takeO_iL, frzsOf, frzOf, datsOf, datOf, on1, on2, put_t, put_al, putO_iL, toD_iL, toD_d, flat_iL, flat_d, lst_nil, lst_one, lst_iE, lst_iD, nil_dT, nil_dL, fList_dL, fList_dT, fTuple_dL, fTuple_dT, fLen_dL, fLen_dT, fSum_dL, fCat_dL, fCat_int, fRep_dL, fRep_int, fSub_int, fMod_int, fDiv_int, fLt_int, fLe_int, fGt_int, fGe_int, fNeg_int, fAbs_int, fMax2_int, fMin2_int, fInt_int, fInt_bool, fSl_dL, fSl_dT, fSl3_dL, fSl3_dT, fEq_int, fNe_int, fEq_dL, fNe_dL, fEq_dT, fNe_dT, items_dL, items_dT, wSl, wSl3, wNo, wPart, wSq_eq, sqK_t, sqK_al, sqO_iL, qIx_eq, qIxK, lstAt_eq, lstO_iL, DL.placeOf, T.get, core_d, re_iL, re_d, T.put, List.getElem?_cons_zero, List.getElem?_cons_succ, List.set_cons_zero, List.set_cons_succ, List.length_cons, List.length_nil, iD_len, iE_len, and_true, true_and, Bool.not_true, Bool.not_false, if_true, if_false, Bool.false_eq_true, decide_eq_true_eq, Bool.not_eq_true', decide_eq_false_iff_not, wFor, wRng1, wRng2, wRng3, wName, endsD, startG, List.map_cons, List.map_nil, List.replicate, List.cons_append, List.nil_append, look, wCall, Option.some.injEq, exists_eq_left', wPar, DL.putAt, wSetQ, wApp_eq, appO_iL, isLst_iL, wPop_eq, popO_iL, Nat.zero_le, not_true_eq_false, not_false_eq_true, wLc, wipeG, restG, toD_iLL, varK_iLL, qvO_iLL, lstO_iLL, re_iLL, lst_iLL, items_tT, items_tL, takeO_iLL, putO_iLL, sqO_iLL, keepD_iLL, wZp, keepD_none, keepD_d, keepD_iL, items_tup, items_lst, wYes, wTTup, wTCons, wTNil]
        exact ⟨by decide, by decide, mulOk (hB r hr x hx) (hC y hy) hBC, hR⟩
      · simp only [wSeq, wSet, wAsg, wExpr, wRet, wIf, wTest, wNotT, wAndT, wOrT, wIfE, w1, w2, wn, wNil, wCons, wVar, varK_iL, varK_d, wC, wLst, wTup, wQ, qVar_eq, qvO_iL, qvO_d, qC, qI, qNeg, qLen, wNext, takesOf, take_al, take_t, takeO_iL, frzsOf, frzOf, datsOf, datOf, on1, on2, put_t, put_al, putO_iL, toD_iL, toD_d, flat_iL, flat_d, lst_nil, lst_one, lst_iE, lst_iD, nil_dT, nil_dL, fList_dL, fList_dT, fTuple_dL, fTuple_dT, fLen_dL, fLen_dT, fSum_dL, fCat_dL, fCat_int, fRep_dL, fRep_int, fSub_int, fMod_int, fDiv_int, fLt_int, fLe_int, fGt_int, fGe_int, fNeg_int, fAbs_int, fMax2_int, fMin2_int, fInt_int, fInt_bool, fSl_dL, fSl_dT, fSl3_dL, fSl3_dT, fEq_int, fNe_int, fEq_dL, fNe_dL, fEq_dT, fNe_dT, items_dL, items_dT, wSl, wSl3, wNo, wPart, wSq_eq, sqK_t, sqK_al, sqO_iL, qIx_eq, qIxK, lstAt_eq, lstO_iL, DL.placeOf, T.get, core_d, re_iL, re_d, T.put, List.getElem?_cons_zero, List.getElem?_cons_succ, List.set_cons_zero, List.set_cons_succ, List.length_cons, List.length_nil, iD_len, iE_len, and_true, true_and, Bool.not_true, Bool.not_false, if_true, if_false, Bool.false_eq_true, decide_eq_true_eq, Bool.not_eq_true', decide_eq_false_iff_not, wFor, wRng1, wRng2, wRng3, wName, endsD, startG, List.map_cons, List.map_nil, List.replicate, List.cons_append, List.nil_append, look, wCall, Option.some.injEq, exists_eq_left', wPar, DL.putAt, wSetQ, wApp_eq, appO_iL, isLst_iL, wPop_eq, popO_iL, Nat.zero_le, not_true_eq_false, not_false_eq_true, wLc, wipeG, restG, toD_iLL, varK_iLL, qvO_iLL, lstO_iLL, re_iLL, lst_iLL, items_tT, items_tL, takeO_iLL, putO_iLL, sqO_iLL, keepD_iLL, wZp, keepD_none, keepD_d, keepD_iL, items_tup, items_lst, wYes, wTTup, wTCons, wTNil]
        exact hR
    rcases hc with rfl | rfl <;> rcases hd with rfl | rfl <;> simp only [E_carried_2, wSeq, wSet, wAsg, wExpr, wRet, wIf, wTest, wNotT, wAndT, wOrT, wIfE, w1, w2, wn, wNil, wCons, wVar, varK_iL, varK_d, wC, wLst, wTup, wQ, qVar_eq, qvO_iL, qvO_d, qC, qI, qNeg, qLen, wNext, takesOf, take_al, take_t, takeO_iL, frzsOf, frzOf, datsOf, datOf, on1, on2, put_t, put_al, putO_iL, toD_iL, toD_d, flat_iL, flat_d, lst_nil, lst_one, lst_iE, lst_iD, nil_dT, nil_dL, fList_dL, fList_dT, fTuple_dL, fTuple_dT, fLen_dL, fLen_dT, fSum_dL, fCat_dL, fCat_int, fRep_dL, fRep_int, fSub_int, fMod_int, fDiv_int, fLt_int, fLe_int, fGt_int, fGe_int, fNeg_int, fAbs_int, fMax2_int, fMin2_int, fInt_int, fInt_bool, fSl_dL, fSl_dT, fSl3_dL, fSl3_dT, fEq_int, fNe_int, fEq_dL, fNe_dL, fEq_dT, fNe_dT, items_dL, items_dT, wSl, wSl3, wNo, wPart, wSq_eq, sqK_t, sqK_al, sqO_iL, qIx_eq, qIxK, lstAt_eq, lstO_iL, DL.placeOf, T.get, core_d, re_iL, re_d, T.put, List.getElem?_cons_zero, List.getElem?_cons_succ, List.set_cons_zero, List.set_cons_succ, List.length_cons, List.length_nil, iD_len, iE_len, and_true, true_and, Bool.not_true, Bool.not_false, if_true, if_false, Bool.false_eq_true, decide_eq_true_eq, Bool.not_eq_true', decide_eq_false_iff_not, wFor, wRng1, wRng2, wRng3, wName, endsD, startG, List.map_cons, List.map_nil, List.replicate, List.cons_append, List.nil_append, look, wCall, Option.some.injEq, exists_eq_left', wPar, DL.putAt, wSetQ, wApp_eq, appO_iL, isLst_iL, wPop_eq, popO_iL, Nat.zero_le, not_true_eq_false, not_false_eq_true, wLc, wipeG, restG, toD_iLL, varK_iLL, qvO_iLL, lstO_iLL, re_iLL, lst_iLL, items_tT, items_tL, takeO_iLL, putO_iLL, sqO_iLL, keepD_iLL, wZp, keepD_none, keepD_d, keepD_iL, items_tup, items_lst, wYes, wTTup, wTCons, wTNil] <;> exact ⟨by decide, fin, goal⟩
  have main : ∀ (c : List Int → PyData) (d a0 : PyData), (c = dT ∨ c = dL) → (d = dT v.v ∨ d = dL v.v) → lcW (wName 4) wYes E_carried_2 [4] (A.v.map c) [] [some (.d a0), some (.d d), none, none, none] fun acc G2 => (T.lst acc) = iL (carryT A.v v.v) := by
    intro c d a0 hc hd
    refine lcW_rows c (fun x y e => by rcases hc with rfl | rfl; exact dT_inj e; exact dL_inj e) (fun r => .d (.int (dotP r v.v))) A.v (fun r hr R R2 hR => inner r c d _ a0 hc hd hr rfl R R2 hR) ?_
    rw [rows_map]
    rfl
  have h1 : A.v.length ≤ 1000 := h1
  cases A with
  | t A =>
    cases v with
    | l v =>
      simp only [W_carried, S_carried, Tb.d, Sq.d, wSeq, wSet, wAsg, wExpr, wRet, wIf, wTest, wNotT, wAndT, wOrT, wIfE, w1, w2, wn, wNil, wCons, wVar, varK_iL, varK_d, wC, wLst, wTup, wQ, qVar_eq, qvO_iL, qvO_d, qC, qI, qNeg, qLen, wNext, takesOf, take_al, take_t, takeO_iL, frzsOf, frzOf, datsOf, datOf, on1, on2, put_t, put_al, putO_iL, toD_iL, toD_d, flat_iL, flat_d, lst_nil, lst_one, lst_iE, lst_iD, nil_dT, nil_dL, fList_dL, fList_dT, fTuple_dL, fTuple_dT, fLen_dL, fLen_dT, fSum_dL, fCat_dL, fCat_int, fRep_dL, fRep_int, fSub_int, fMod_int, fDiv_int, fLt_int, fLe_int, fGt_int, fGe_int, fNeg_int, fAbs_int, fMax2_int, fMin2_int, fInt_int, fInt_bool, fSl_dL, fSl_dT, fSl3_dL, fSl3_dT, fEq_int, fNe_int, fEq_dL, fNe_dL, fEq_dT, fNe_dT, items_dL, items_dT, wSl, wSl3, wNo, wPart, wSq_eq, sqK_t, sqK_al, sqO_iL, qIx_eq, qIxK, lstAt_eq, lstO_iL, DL.placeOf, T.get, core_d, re_iL, re_d, T.put, List.getElem?_cons_zero, List.getElem?_cons_succ, List.set_cons_zero, List.set_cons_succ, List.length_cons, List.length_nil, iD_len, iE_len, and_true, true_and, Bool.not_true, Bool.not_false, if_true, if_false, Bool.false_eq_true, decide_eq_true_eq, Bool.not_eq_true', decide_eq_false_iff_not, wFor, wRng1, wRng2, wRng3, wName, endsD, startG, List.map_cons, List.map_nil, List.replicate, List.cons_append, List.nil_append, look, wCall, Option.some.injEq, exists_eq_left', wPar, DL.putAt, wSetQ, wApp_eq, appO_iL, isLst_iL, wPop_eq, popO_iL, Nat.zero_le, not_true_eq_false, not_false_eq_true, wLc, wipeG, restG, toD_iLL, varK_iLL, qvO_iLL, lstO_iLL, re_iLL, lst_iLL, items_tT, items_tL, takeO_iLL, putO_iLL, sqO_iLL, keepD_iLL, wZp, keepD_none, keepD_d, keepD_iL, items_tup, items_lst, wYes, wTTup, wTCons, wTNil, List.length_map]
      exact ⟨le1000 h1, main dT _ _ (.inl rfl) (.inr rfl)⟩
    | t v =>
      simp only [W_carried, S_carried, Tb.d, Sq.d, wSeq, wSet, wAsg, wExpr, wRet, wIf, wTest, wNotT, wAndT, wOrT, wIfE, w1, w2, wn, wNil, wCons, wVar, varK_iL, varK_d, wC, wLst, wTup, wQ, qVar_eq, qvO_iL, qvO_d, qC, qI, qNeg, qLen, wNext, takesOf, take_al, take_t, takeO_iL, frzsOf, frzOf, datsOf, datOf, on1, on2, put_t, put_al, putO_iL, toD_iL, toD_d, flat_iL, flat_d, lst_nil, lst_one, lst_iE, lst_iD, nil_dT, nil_dL, fList_dL, fList_dT, fTuple_dL, fTuple_dT, fLen_dL, fLen_dT, fSum_dL, fCat_dL, fCat_int, fRep_dL, fRep_int, fSub_int, fMod_int, fDiv_int, fLt_int, fLe_int, fGt_int, fGe_int, fNeg_int, fAbs_int, fMax2_int, fMin2_int, fInt_int, fInt_bool, fSl_dL, fSl_dT, fSl3_dL, fSl3_dT, fEq_int, fNe_int, fEq_dL, fNe_dL, fEq_dT, fNe_dT, items_dL, items_dT, wSl, wSl3, wNo, wPart, wSq_eq, sqK_t, sqK_al, sqO_iL, qIx_eq, qIxK, lstAt_eq, lstO_iL, DL.placeOf, T.get, core_d, re_iL, re_d, T.put, List.getElem?_cons_zero, List.getElem?_cons_succ, List.set_cons_zero, List.set_cons_succ, List.length_cons, List.length_nil, iD_len, iE_len, and_true, true_and, Bool.not_true, Bool.not_false, if_true, if_false, Bool.false_eq_true, decide_eq_true_eq, Bool.not_eq_true', decide_eq_false_iff_not, wFor, wRng1, wRng2, wRng3, wName, endsD, startG, List.map_cons, List.map_nil, List.replicate, List.cons_append, List.nil_append, look, wCall, Option.some.injEq, exists_eq_left', wPar, DL.putAt, wSetQ, wApp_eq, appO_iL, isLst_iL, wPop_eq, popO_iL, Nat.zero_le, not_true_eq_false, not_false_eq_true, wLc, wipeG, restG, toD_iLL, varK_iLL, qvO_iLL, lstO_iLL, re_iLL, lst_iLL, items_tT, items_tL, takeO_iLL, putO_iLL, sqO_iLL, keepD_iLL, wZp, keepD_none, keepD_d, keepD_iL, items_tup, items_lst, wYes, wTTup, wTCons, wTNil, List.length_map]
      exact ⟨le1000 h1, main dT _ _ (.inl rfl) (.inl rfl)⟩
  | l A =>
    cases v with
    | l v =>
      simp only [W_carried, S_carried, Tb.d, Sq.d, wSeq, wSet, wAsg, wExpr, wRet, wIf, wTest, wNotT, wAndT, wOrT, wIfE, w1, w2, wn, wNil, wCons, wVar, varK_iL, varK_d, wC, wLst, wTup, wQ, qVar_eq, qvO_iL, qvO_d, qC, qI, qNeg, qLen, wNext, takesOf, take_al, take_t, takeO_iL, frzsOf, frzOf, datsOf, datOf, on1, on2, put_t, put_al, putO_iL, toD_iL, toD_d, flat_iL, flat_d, lst_nil, lst_one, lst_iE, lst_iD, nil_dT, nil_dL, fList_dL, fList_dT, fTuple_dL, fTuple_dT, fLen_dL, fLen_dT, fSum_dL, fCat_dL, fCat_int, fRep_dL, fRep_int, fSub_int, fMod_int, fDiv_int, fLt_int, fLe_int, fGt_int, fGe_int, fNeg_int, fAbs_int, fMax2_int, fMin2_int, fInt_int, fInt_bool, fSl_dL, fSl_dT, fSl3_dL, fSl3_dT, fEq_int, fNe_int, fEq_dL, fNe_dL, fEq_dT, fNe_dT, items_dL, items_dT, wSl, wSl3, wNo, wPart, wSq_eq, sqK_t, sqK_al, sqO_iL, qIx_eq, qIxK, lstAt_eq, lstO_iL, DL.placeOf, T.get, core_d, re_iL, re_d, T.put, List.getElem?_cons_zero, List.getElem?_cons_succ, List.set_cons_zero, List.set_cons_succ, List.length_cons, List.length_nil, iD_len, iE_len, and_true, true_and, Bool.not_true, Bool.not_false, if_true, if_false, Bool.false_eq_true, decide_eq_true_eq, Bool.not_eq_true', decide_eq_false_iff_not, wFor, wRng1, wRng2, wRng3, wName, endsD, startG, List.map_cons, List.map_nil, List.replicate, List.cons_append, List.nil_append, look, wCall, Option.some.injEq, exists_eq_left', wPar, DL.putAt, wSetQ, wApp_eq, appO_iL, isLst_iL, wPop_eq, popO_iL, Nat.zero_le, not_true_eq_false, not_false_eq_true, wLc, wipeG, restG, toD_iLL, varK_iLL, qvO_iLL, lstO_iLL, re_iLL, lst_iLL, items_tT, items_tL, takeO_iLL, putO_iLL, sqO_iLL, keepD_iLL, wZp, keepD_none, keepD_d, keepD_iL, items_tup, items_lst, wYes, wTTup, wTCons, wTNil, List.length_map]
      exact ⟨le1000 h1, main dL _ _ (.inr rfl) (.inr rfl)⟩
    | t v =>
      simp only [W_carried, S_carried, Tb.d, Sq.d, wSeq, wSet, wAsg, wExpr, wRet, wIf, wTest, wNotT, wAndT, wOrT, wIfE, w1, w2, wn, wNil, wCons, wVar, varK_iL, varK_d, wC, wLst, wTup, wQ, qVar_eq, qvO_iL, qvO_d, qC, qI, qNeg, qLen, wNext, takesOf, take_al, take_t, takeO_iL, frzsOf, frzOf, datsOf, datOf, on1, on2, put_t, put_al, putO_iL, toD_iL, toD_d, flat_iL, flat_d, lst_nil, lst_one, lst_iE, lst_iD, nil_dT, nil_dL, fList_dL, fList_dT, fTuple_dL, fTuple_dT, fLen_dL, fLen_dT, fSum_dL, fCat_dL, fCat_int, fRep_dL, fRep_int, fSub_int, fMod_int, fDiv_int, fLt_int, fLe_int, fGt_int, fGe_int, fNeg_int, fAbs_int, fMax2_int, fMin2_int, fInt_int, fInt_bool, fSl_dL, fSl_dT, fSl3_dL, fSl3_dT, fEq_int, fNe_int, fEq_dL, fNe_dL, fEq_dT, fNe_dT, items_dL, items_dT, wSl, wSl3, wNo, wPart, wSq_eq, sqK_t, sqK_al, sqO_iL, qIx_eq, qIxK, lstAt_eq, lstO_iL, DL.placeOf, T.get, core_d, re_iL, re_d, T.put, List.getElem?_cons_zero, List.getElem?_cons_succ, List.set_cons_zero, List.set_cons_succ, List.length_cons, List.length_nil, iD_len, iE_len, and_true, true_and, Bool.not_true, Bool.not_false, if_true, if_false, Bool.false_eq_true, decide_eq_true_eq, Bool.not_eq_true', decide_eq_false_iff_not, wFor, wRng1, wRng2, wRng3, wName, endsD, startG, List.map_cons, List.map_nil, List.replicate, List.cons_append, List.nil_append, look, wCall, Option.some.injEq, exists_eq_left', wPar, DL.putAt, wSetQ, wApp_eq, appO_iL, isLst_iL, wPop_eq, popO_iL, Nat.zero_le, not_true_eq_false, not_false_eq_true, wLc, wipeG, restG, toD_iLL, varK_iLL, qvO_iLL, lstO_iLL, re_iLL, lst_iLL, items_tT, items_tL, takeO_iLL, putO_iLL, sqO_iLL, keepD_iLL, wZp, keepD_none, keepD_d, keepD_iL, items_tup, items_lst, wYes, wTTup, wTCons, wTNil, List.length_map]
      exact ⟨le1000 h1, main dL _ _ (.inr rfl) (.inl rfl)⟩
theorem lt1 {α : Type} {l : List α} {n : Nat} (h : l.length = n) {j : Nat} (hj : j < n) : j < l.length := by omega
theorem WK_multiplied_by : ∀ x, S_multiplied_by.pre x → W_multiplied_by (endsD (S_multiplied_by.post x)) (startG 8 (S_multiplied_by.args x)) := by
  rintro ⟨A, M⟩ ⟨h1, h2, h3, h4, B, C, hB, hC, hBC⟩
  have h1 : A.v.length ≤ 1000 := h1
  have h3 : M.length ≤ 1000 := h3
  have h4 : ∀ r ∈ M, r.length = M.length := h4
  have hcl : (colsT M).length = M.length := by
    unfold colsT
    rw [List.length_map, List.length_range]
  have hcc : ∀ c ∈ colsT M, Bds C c := fun c hc => by
    obtain ⟨i, _, rfl⟩ := List.mem_map.mp hc
    intro x hx
    obtain ⟨r, hr, rfl⟩ := List.mem_map.mp hx
    exact (hC r hr).at0 i
  -- the columns
  have cols : ∀ (a0 : PyData) (k : List T → Gm → Prop), k ((colsT M).map iL) [some (.d a0), some (.d (tL M)), none, none, none, none, none, none] → lcW (wName 4) wYes E_multiplied_by_5 [4] (rangeD 0 M.length) [] [some (.d a0), some (.d (tL M)), none, none, none, none, none, none] k := by
    intro a0 k hk
    refine lcW_range (fun i => iL (M.map fun r => at0 r i)) 0 M.length (fun i hi R R2 hR => ?_) ?_
    · have e1 : ((0 : Int) + (i : Int)) = (i : Int) := by omega
      rw [e1]
      simp only [E_multiplied_by_5, wSeq, wSet, wAsg, wExpr, wRet, wIf, wTest, wNotT, wAndT, wOrT, wIfE, w1, w2, wn, wNil, wCons, wVar, varK_iL, varK_d, wC, wLst, wTup, wQ, qVar_eq, qvO_iL, qvO_d, qC, qI, qNeg, qLen, wNext, takesOf, take_al, take_t, takeO_iL, frzsOf, frzOf, datsOf, datOf, on1, on2, put_t, put_al, putO_iL, toD_iL, toD_d, flat_iL, flat_d, lst_nil, lst_one, lst_iE, lst_iD, nil_dT, nil_dL, fList_dL, fList_dT, fTuple_dL, fTuple_dT, fLen_dL, fLen_dT, fSum_dL, fCat_dL, fCat_int, fRep_dL, fRep_int, fSub_int, fMod_int, fDiv_int, fLt_int, fLe_int, fGt_int, fGe_int, fNeg_int, fAbs_int, fMax2_int, fMin2_int, fInt_int, fInt_bool, fSl_dL, fSl_dT, fSl3_dL, fSl3_dT, fEq_int, fNe_int, fEq_dL, fNe_dL, fEq_dT, fNe_dT, items_dL, items_dT, wSl, wSl3, wNo, wPart, wSq_eq, sqK_t, sqK_al, sqO_iL, qIx_eq, qIxK, lstAt_eq, lstO_iL, DL.placeOf, T.get, core_d, re_iL, re_d, T.put, List.getElem?_cons_zero, List.getElem?_cons_succ, List.set_cons_zero, List.set_cons_succ, List.length_cons, List.length_nil, iD_len, iE_len, and_true, true_and, Bool.not_true, Bool.not_false, if_true, if_false, Bool.false_eq_true, decide_eq_true_eq, Bool.not_eq_true', decide_eq_false_iff_not, wFor, wRng1, wRng2, wRng3, wName, endsD, startG, List.map_cons, List.map_nil, List.replicate, List.cons_append, List.nil_append, look, wCall, Option.some.injEq, exists_eq_left', wPar, DL.putAt, wSetQ, wApp_eq, appO_iL, isLst_iL, wPop_eq, popO_iL, Nat.zero_le, not_true_eq_false, not_false_eq_true, wLc, wipeG, restG, toD_iLL, varK_iLL, qvO_iLL, lstO_iLL, re_iLL, lst_iLL, items_tT, items_tL, takeO_iLL, putO_iLL, sqO_iLL, keepD_iLL, wZp, keepD_none, keepD_d, keepD_iL, items_tup, items_lst, wYes, wTTup, wTCons, wTNil, List.length_map]
      refine ⟨by decide, le1000 h3, ?_⟩
      refine lcW_rows dL (fun _ _ => dL_inj) (fun r => .d (.int (at0 r i))) M (fun r hr R R2 hR => ?_) ?_
      · simp only [E_multiplied_by_4, wSeq, wSet, wAsg, wExpr, wRet, wIf, wTest, wNotT, wAndT, wOrT, wIfE, w1, w2, wn, wNil, wCons, wVar, varK_iL, varK_d, wC, wLst, wTup, wQ, qVar_eq, qvO_iL, qvO_d, qC, qI, qNeg, qLen, wNext, takesOf, take_al, take_t, takeO_iL, frzsOf, frzOf, datsOf, datOf, on1, on2, put_t, put_al, putO_iL, toD_iL, toD_d, flat_iL, flat_d, lst_nil, lst_one, lst_iE, lst_iD, nil_dT, nil_dL, fList_dL, fList_dT, fTuple_dL, fTuple_dT, fLen_dL, fLen_dT, fSum_dL, fCat_dL, fCat_int, fRep_dL, fRep_int, fSub_int, fMod_int, fDiv_int, fLt_int, fLe_int, fGt_int, fGe_int, fNeg_int, fAbs_int, fMax2_int, fMin2_int, fInt_int, fInt_bool, fSl_dL, fSl_dT, fSl3_dL, fSl3_dT, fEq_int, fNe_int, fEq_dL, fNe_dL, fEq_dT, fNe_dT, items_dL, items_dT, wSl, wSl3, wNo, wPart, wSq_eq, sqK_t, sqK_al, sqO_iL, qIx_eq, qIxK, lstAt_eq, lstO_iL, DL.placeOf, T.get, core_d, re_iL, re_d, T.put, List.getElem?_cons_zero, List.getElem?_cons_succ, List.set_cons_zero, List.set_cons_succ, List.length_cons, List.length_nil, iD_len, iE_len, and_true, true_and, Bool.not_true, Bool.not_false, if_true, if_false, Bool.false_eq_true, decide_eq_true_eq, Bool.not_eq_true', decide_eq_false_iff_not, wFor, wRng1, wRng2, wRng3, wName, endsD, startG, List.map_cons, List.map_nil, List.replicate, List.cons_append, List.nil_append, look, wCall, Option.some.injEq, exists_eq_left', wPar, DL.putAt, wSetQ, wApp_eq, appO_iL, isLst_iL, wPop_eq, popO_iL, Nat.zero_le, not_true_eq_false, not_false_eq_true, wLc, wipeG, restG, toD_iLL, varK_iLL, qvO_iLL, lstO_iLL, re_iLL, lst_iLL, items_tT, items_tL, takeO_iLL, putO_iLL, sqO_iLL, keepD_iLL, wZp, keepD_none, keepD_d, keepD_iL, items_tup, items_lst, wYes, wTTup, wTCons, wTNil, items_dL, atI_at (rfl : (i : Int) = (i : Int)) (lt1 (h4 r hr) hi)]
        exact ⟨by decide, hR⟩
      · rw [rows_map]
        simp only [wSeq, wSet, wAsg, wExpr, wRet, wIf, wTest, wNotT, wAndT, wOrT, wIfE, w1, w2, wn, wNil, wCons, wVar, varK_iL, varK_d, wC, wLst, wTup, wQ, qVar_eq, qvO_iL, qvO_d, qC, qI, qNeg, qLen, wNext, takesOf, take_al, take_t, takeO_iL, frzsOf, frzOf, datsOf, datOf, on1, on2, put_t, put_al, putO_iL, toD_iL, toD_d, flat_iL, flat_d, lst_nil, lst_one, lst_iE, lst_iD, nil_dT, nil_dL, fList_dL, fList_dT, fTuple_dL, fTuple_dT, fLen_dL, fLen_dT, fSum_dL, fCat_dL, fCat_int, fRep_dL, fRep_int, fSub_int, fMod_int, fDiv_int, fLt_int, fLe_int, fGt_int, fGe_int, fNeg_int, fAbs_int, fMax2_int, fMin2_int, fInt_int, fInt_bool, fSl_dL, fSl_dT, fSl3_dL, fSl3_dT, fEq_int, fNe_int, fEq_dL, fNe_dL, fEq_dT, fNe_dT, items_dL, items_dT, wSl, wSl3, wNo, wPart, wSq_eq, sqK_t, sqK_al, sqO_iL, qIx_eq, qIxK, lstAt_eq, lstO_iL, DL.placeOf, T.get, core_d, re_iL, re_d, T.put, List.getElem?_cons_zero, List.getElem?_cons_succ, List.set_cons_zero, List.set_cons_succ, List.length_cons, List.length_nil, iD_len, iE_len, and_true, true_and, Bool.not_true, Bool.not_false, if_true, if_false, Bool.false_eq_true, decide_eq_true_eq, Bool.not_eq_true', decide_eq_false_iff_not, wFor, wRng1, wRng2, wRng3, wName, endsD, startG, List.map_cons, List.map_nil, List.replicate, List.cons_append, List.nil_append, look, wCall, Option.some.injEq, exists_eq_left', wPar, DL.putAt, wSetQ, wApp_eq, appO_iL, isLst_iL, wPop_eq, popO_iL, Nat.zero_le, not_true_eq_false, not_false_eq_true, wLc, wipeG, restG, toD_iLL, varK_iLL, qvO_iLL, lstO_iLL, re_iLL, lst_iLL, items_tT, items_tL, takeO_iLL, putO_iLL, sqO_iLL, keepD_iLL, wZp, keepD_none, keepD_d, keepD_iL, items_tup, items_lst, wYes, wTTup, wTCons, wTNil]
        exact hR
    · rw [map_iLL]
      exact hk
  -- one row by the columns
  have rowk : ∀ (r : List Int) (c : List Int → PyData) (a0 : PyData) (o2 : T), (c = dT ∨ c = dL) → r ∈ A.v → (o2 = iLL (colsT M) ∨ o2 = .d (tL (colsT M))) → ∀ (R : T → Gm → Prop) (R2 : Gm → Prop),
      (∀ o2, (o2 = iLL (colsT M) ∨ o2 = .d (tL (colsT M))) → R (iL ((colsT M).map fun c => dotP r c)) [some (.d a0), some (.d (tL M)), some o2, none, none, none, none, none]) →
      wName 3 (c r) [some (.d a0), some (.d (tL M)), some o2, none, none, none, none, none] fun G2 => wYes G2 fun b G3 => if b = true then E_multiplied_by_3 G3 fun y G4 => match takeOf G4 y with
      | some (ty, G5) => R ty (wipeG G5 [3])
      | none => False else R2 (wipeG G3 [3]) := by
    intro r c a0 o2 hc hr ho R R2 hR
    have hw : lcW (wName 7) wYes E_multiplied_by_2 [7] ((colsT M).map dL) [] [some (.d a0), some (.d (tL M)), some (.d (tL (colsT M))), some (.d (c r)), none, none, none, none] fun acc G2 =>
        match takeOf (restG [some (.d a0), some (.d (tL M)), some (.d (tL (colsT M))), some (.d (c r)), none, none, none, none] G2 [7]) (.t (.lst acc)) with
        | some (ty, G5) => R ty (wipeG G5 [3])
        | none => False := by
      refine lcW_rows dL (fun _ _ => dL_inj) (fun col => .d (.int (dotP r col))) (colsT M) (fun col hcol R R2 hR => ?_) ?_
      · have hz : lcW (wTTup 2 (wTCons (wName 5) (wTCons (wName 6) wTNil))) wYes E_multiplied_by_1 [5, 6] (zipD (iD r) (iD col)) [] [some (.d a0), some (.d (tL M)), some (.d (tL (colsT M))), some (.d (c r)), none, none, none, some (.d (dL col))] fun acc G2 =>
            (match datsOf (restG [some (.d a0), some (.d (tL M)), some (.d (tL (colsT M))), some (.d (c r)), none, none, none, some (.d (dL col))] G2 [5, 6]) [.t (.lst acc)] with
            | some ds => on1 fSum ds fun r0 => match takeOf (restG [some (.d a0), some (.d (tL M)), some (.d (tL (colsT M))), some (.d (c r)), none, none, none, some (.d (dL col))] G2 [5, 6]) (.t r0) with
              | some (ty, G5) => R ty (wipeG G5 [7])
              | none => False
            | none => False) := by
          refine lcW_pairs (fun x y => x * y) r col (fun x hx y hy R R2 hR => ?_) ?_
          · simp only [E_multiplied_by_1, wSeq, wSet, wAsg, wExpr, wRet, wIf, wTest, wNotT, wAndT, wOrT, wIfE, w1, w2, wn, wNil, wCons, wVar, varK_iL, varK_d, wC, wLst, wTup, wQ, qVar_eq, qvO_iL, qvO_d, qC, qI, qNeg, qLen, wNext, takesOf, take_al, take_t, takeO_iL, frzsOf, frzOf, datsOf, datOf, on1, on2, put_t, put_al, putO_iL, toD_iL, toD_d, flat_iL, flat_d, lst_nil, lst_one, lst_iE, lst_iD, nil_dT, nil_dL, fList_dL, fList_dT, fTuple_dL, fTuple_dT, fLen_dL, fLen_dT, fSum_dL, fCat_dL, fCat_int, fRep_dL, fRep_int, fSub_int, fMod_int, fDiv_int, fLt_int, fLe_int, fGt_int, fGe_int, fNeg_int, fAbs_int, fMax2_int, fMin2_int, fInt_int, fInt_bool, fSl_dL, fSl_dT, fSl3_dL, fSl3_dT, fEq_int, fNe_int, fEq_dL, fNe_dL, fEq_dT, fNe_dT, items_dL, items_dT, wSl, wSl3, wNo, wPart, wSq_eq, sqK_t, sqK_al, sqO_iL, qIx_eq, qIxK, lstAt_eq, lstO_iL, DL.placeOf, T.get, core_d, re_iL, re_d, T.put, List.getElem?_cons_zero, List.getElem?_cons_succ, List.set_cons_zero, List.set_cons_succ, List.length_cons, List.length_nil, iD_len, iE_len, and_true, true_and, Bool.not_true, Bool.not_false, if_true, if_false, Bool.false_eq_true, decide_eq_true_eq, Bool.not_eq_true', decide_eq_false_iff_not, wFor, wRng1, wRng2, wRng3, wName, endsD, startG, List.map_cons, List.map_nil, List.replicate, List.cons_append, List.nil_append, look, wCall, Option.some.injEq, exists_eq_left', wPar, DL.putAt, wSetQ, wApp_eq, appO_iL, isLst_iL, wPop_eq, popO_iL, Nat.zero_le, not_true_eq_false, not_false_eq_true, wLc, wipeG, restG, toD_iLL, varK_iLL, qvO_iLL, lstO_iLL, re_iLL, lst_iLL, items_tT, items_tL, takeO_iLL, putO_iLL, sqO_iLL, keepD_iLL, wZp, keepD_none, keepD_d, keepD_iL, items_tup, items_lst, wYes, wTTup, wTCons, wTNil]
            exact ⟨by decide, by decide, mulOk (hB r hr x hx) (hcc col hcol y hy) hBC, hR⟩
          · simp only [wSeq, wSet, wAsg, wExpr, wRet, wIf, wTest, wNotT, wAndT, wOrT, wIfE, w1, w2, wn, wNil, wCons, wVar, varK_iL, varK_d, wC, wLst, wTup, wQ, qVar_eq, qvO_iL, qvO_d, qC, qI, qNeg, qLen, wNext, takesOf, take_al, take_t, takeO_iL, frzsOf, frzOf, datsOf, datOf, on1, on2, put_t, put_al, putO_iL, toD_iL, toD_d, flat_iL, flat_d, lst_nil, lst_one, lst_iE, lst_iD, nil_dT, nil_dL, fList_dL, fList_dT, fTuple_dL, fTuple_dT, fLen_dL, fLen_dT, fSum_dL, fCat_dL, fCat_int, fRep_dL, fRep_int, fSub_int, fMod_int, fDiv_int, fLt_int, fLe_int, fGt_int, fGe_int, fNeg_int, fAbs_int, fMax2_int, fMin2_int, fInt_int, fInt_bool, fSl_dL, fSl_dT, fSl3_dL, fSl3_dT, fEq_int, fNe_int, fEq_dL, fNe_dL, fEq_dT, fNe_dT, items_dL, items_dT, wSl, wSl3, wNo, wPart, wSq_eq, sqK_t, sqK_al, sqO_iL, qIx_eq, qIxK, lstAt_eq, lstO_iL, DL.placeOf, T.get, core_d, re_iL, re_d, T.put, List.getElem?_cons_zero, List.getElem?_cons_succ, List.set_cons_zero, List.set_cons_succ, List.length_cons, List.length_nil, iD_len, iE_len, and_true, true_and, Bool.not_true, Bool.not_false, if_true, if_false, Bool.false_eq_true, decide_eq_true_eq, Bool.not_eq_true', decide_eq_false_iff_not, wFor, wRng1, wRng2, wRng3, wName, endsD, startG, List.map_cons, List.map_nil, List.replicate, List.cons_append, List.nil_append, look, wCall, Option.some.injEq, exists_eq_left', wPar, DL.putAt, wSetQ, wApp_eq, appO_iL, isLst_iL, wPop_eq, popO_iL, Nat.zero_le, not_true_eq_false, not_false_eq_true, wLc, wipeG, restG, toD_iLL, varK_iLL, qvO_iLL, lstO_iLL, re_iLL, lst_iLL, items_tT, items_tL, takeO_iLL, putO_iLL, sqO_iLL, keepD_iLL, wZp, keepD_none, keepD_d, keepD_iL, items_tup, items_lst, wYes, wTTup, wTCons, wTNil]
            exact hR
        have fin : (zipD (iD r) (iD col)).length ≤ sizeLine := Nat.le_trans (zip_len _ _) (le1000 (h2 r hr))
        rcases hc with rfl | rfl <;> simp only [E_multiplied_by_2, wSeq, wSet, wAsg, wExpr, wRet, wIf, wTest, wNotT, wAndT, wOrT, wIfE, w1, w2, wn, wNil, wCons, wVar, varK_iL, varK_d, wC, wLst, wTup, wQ, qVar_eq, qvO_iL, qvO_d, qC, qI, qNeg, qLen, wNext, takesOf, take_al, take_t, takeO_iL, frzsOf, frzOf, datsOf, datOf, on1, on2, put_t, put_al, putO_iL, toD_iL, toD_d, flat_iL, flat_d, lst_nil, lst_one, lst_iE, lst_iD, nil_dT, nil_dL, fList_dL, fList_dT, fTuple_dL, fTuple_dT, fLen_dL, fLen_dT, fSum_dL, fCat_dL, fCat_int, fRep_dL, fRep_int, fSub_int, fMod_int, fDiv_int, fLt_int, fLe_int, fGt_int, fGe_int, fNeg_int, fAbs_int, fMax2_int, fMin2_int, fInt_int, fInt_bool, fSl_dL, fSl_dT, fSl3_dL, fSl3_dT, fEq_int, fNe_int, fEq_dL, fNe_dL, fEq_dT, fNe_dT, items_dL, items_dT, wSl, wSl3, wNo, wPart, wSq_eq, sqK_t, sqK_al, sqO_iL, qIx_eq, qIxK, lstAt_eq, lstO_iL, DL.placeOf, T.get, core_d, re_iL, re_d, T.put, List.getElem?_cons_zero, List.getElem?_cons_succ, List.set_cons_zero, List.set_cons_succ, List.length_cons, List.length_nil, iD_len, iE_len, and_true, true_and, Bool.not_true, Bool.not_false, if_true, if_false, Bool.false_eq_true, decide_eq_true_eq, Bool.not_eq_true', decide_eq_false_iff_not, wFor, wRng1, wRng2, wRng3, wName, endsD, startG, List.map_cons, List.map_nil, List.replicate, List.cons_append, List.nil_append, look, wCall, Option.some.injEq, exists_eq_left', wPar, DL.putAt, wSetQ, wApp_eq, appO_iL, isLst_iL, wPop_eq, popO_iL, Nat.zero_le, not_true_eq_false, not_false_eq_true, wLc, wipeG, restG, toD_iLL, varK_iLL, qvO_iLL, lstO_iLL, re_iLL, lst_iLL, items_tT, items_tL, takeO_iLL, putO_iLL, sqO_iLL, keepD_iLL, wZp, keepD_none, keepD_d, keepD_iL, items_tup, items_lst, wYes, wTTup, wTCons, wTNil] <;> exact ⟨by decide, fin, hz⟩
      · rw [rows_map]
        simp only [wSeq, wSet, wAsg, wExpr, wRet, wIf, wTest, wNotT, wAndT, wOrT, wIfE, w1, w2, wn, wNil, wCons, wVar, varK_iL, varK_d, wC, wLst, wTup, wQ, qVar_eq, qvO_iL, qvO_d, qC, qI, qNeg, qLen, wNext, takesOf, take_al, take_t, takeO_iL, frzsOf, frzOf, datsOf, datOf, on1, on2, put_t, put_al, putO_iL, toD_iL, toD_d, flat_iL, flat_d, lst_nil, lst_one, lst_iE, lst_iD, nil_dT, nil_dL, fList_dL, fList_dT, fTuple_dL, fTuple_dT, fLen_dL, fLen_dT, fSum_dL, fCat_dL, fCat_int, fRep_dL, fRep_int, fSub_int, fMod_int, fDiv_int, fLt_int, fLe_int, fGt_int, fGe_int, fNeg_int, fAbs_int, fMax2_int, fMin2_int, fInt_int, fInt_bool, fSl_dL, fSl_dT, fSl3_dL, fSl3_dT, fEq_int, fNe_int, fEq_dL, fNe_dL, fEq_dT, fNe_dT, items_dL, items_dT, wSl, wSl3, wNo, wPart, wSq_eq, sqK_t, sqK_al, sqO_iL, qIx_eq, qIxK, lstAt_eq, lstO_iL, DL.placeOf, T.get, core_d, re_iL, re_d, T.put, List.getElem?_cons_zero, List.getElem?_cons_succ, List.set_cons_zero, List.set_cons_succ, List.length_cons, List.length_nil, iD_len, iE_len, and_true, true_and, Bool.not_true, Bool.not_false, if_true, if_false, Bool.false_eq_true, decide_eq_true_eq, Bool.not_eq_true', decide_eq_false_iff_not, wFor, wRng1, wRng2, wRng3, wName, endsD, startG, List.map_cons, List.map_nil, List.replicate, List.cons_append, List.nil_append, look, wCall, Option.some.injEq, exists_eq_left', wPar, DL.putAt, wSetQ, wApp_eq, appO_iL, isLst_iL, wPop_eq, popO_iL, Nat.zero_le, not_true_eq_false, not_false_eq_true, wLc, wipeG, restG, toD_iLL, varK_iLL, qvO_iLL, lstO_iLL, re_iLL, lst_iLL, items_tT, items_tL, takeO_iLL, putO_iLL, sqO_iLL, keepD_iLL, wZp, keepD_none, keepD_d, keepD_iL, items_tup, items_lst, wYes, wTTup, wTCons, wTNil]
        exact hR _ (.inr rfl)
    have hlen : (colsT M).length ≤ sizeLine := le1000 (by omega)
    rcases ho with rfl | rfl <;> simp only [E_multiplied_by_3, wSeq, wSet, wAsg, wExpr, wRet, wIf, wTest, wNotT, wAndT, wOrT, wIfE, w1, w2, wn, wNil, wCons, wVar, varK_iL, varK_d, wC, wLst, wTup, wQ, qVar_eq, qvO_iL, qvO_d, qC, qI, qNeg, qLen, wNext, takesOf, take_al, take_t, takeO_iL, frzsOf, frzOf, datsOf, datOf, on1, on2, put_t, put_al, putO_iL, toD_iL, toD_d, flat_iL, flat_d, lst_nil, lst_one, lst_iE, lst_iD, nil_dT, nil_dL, fList_dL, fList_dT, fTuple_dL, fTuple_dT, fLen_dL, fLen_dT, fSum_dL, fCat_dL, fCat_int, fRep_dL, fRep_int, fSub_int, fMod_int, fDiv_int, fLt_int, fLe_int, fGt_int, fGe_int, fNeg_int, fAbs_int, fMax2_int, fMin2_int, fInt_int, fInt_bool, fSl_dL, fSl_dT, fSl3_dL, fSl3_dT, fEq_int, fNe_int, fEq_dL, fNe_dL, fEq_dT, fNe_dT, items_dL, items_dT, wSl, wSl3, wNo, wPart, wSq_eq, sqK_t, sqK_al, sqO_iL, qIx_eq, qIxK, lstAt_eq, lstO_iL, DL.placeOf, T.get, core_d, re_iL, re_d, T.put, List.getElem?_cons_zero, List.getElem?_cons_succ, List.set_cons_zero, List.set_cons_succ, List.length_cons, List.length_nil, iD_len, iE_len, and_true, true_and, Bool.not_true, Bool.not_false, if_true, if_false, Bool.false_eq_true, decide_eq_true_eq, Bool.not_eq_true', decide_eq_false_iff_not, wFor, wRng1, wRng2, wRng3, wName, endsD, startG, List.map_cons, List.map_nil, List.replicate, List.cons_append, List.nil_append, look, wCall, Option.some.injEq, exists_eq_left', wPar, DL.putAt, wSetQ, wApp_eq, appO_iL, isLst_iL, wPop_eq, popO_iL, Nat.zero_le, not_true_eq_false, not_false_eq_true, wLc, wipeG, restG, toD_iLL, varK_iLL, qvO_iLL, lstO_iLL, re_iLL, lst_iLL, items_tT, items_tL, takeO_iLL, putO_iLL, sqO_iLL, keepD_iLL, wZp, keepD_none, keepD_d, keepD_iL, items_tup, items_lst, wYes, wTTup, wTCons, wTNil, List.length_map] <;> exact ⟨by decide, hlen, hw⟩
  have fin : ∀ (c : List Int → PyData) (a0 : PyData), (c = dT ∨ c = dL) → lcW (wName 3) wYes E_multiplied_by_3 [3] (A.v.map c) [] [some (.d a0), some (.d (tL M)), some (iLL (colsT M)), none, none, none, none, none] fun acc G2 => (T.lst acc) = iLL (mulT A.v M) := by
    intro c a0 hc
    refine lcW_rowsS (fun G => ∃ o2, (o2 = iLL (colsT M) ∨ o2 = .d (tL (colsT M))) ∧ G = [some (.d a0), some (.d (tL M)), some o2, none, none, none, none, none]) c (fun r => iL ((colsT M).map fun c => dotP r c)) A.v ⟨_, .inl rfl, rfl⟩ (fun r hr G hG R R2 hR => ?_) (fun G' _ => ?_)
    · obtain ⟨o2, ho, rfl⟩ := hG
      exact rowk r c a0 o2 hc hr ho R R2 fun o2 ho => hR _ ⟨o2, ho, rfl⟩
    · rw [map_iLL]
      rfl
  have hsm : small62 (M.length : Int) := ⟨by omega, by omega⟩
  have hrl : (rangeD 0 M.length).length ≤ sizeLine := by rw [rangeD_len]; exact le1000 h3
  have hA : A.v.length ≤ sizeLine := le1000 h1
  cases A with
  | t A =>
    simp only [W_multiplied_by, S_multiplied_by, Tb.d, wSeq, wSet, wAsg, wExpr, wRet, wIf, wTest, wNotT, wAndT, wOrT, wIfE, w1, w2, wn, wNil, wCons, wVar, varK_iL, varK_d, wC, wLst, wTup, wQ, qVar_eq, qvO_iL, qvO_d, qC, qI, qNeg, qLen, wNext, takesOf, take_al, take_t, takeO_iL, frzsOf, frzOf, datsOf, datOf, on1, on2, put_t, put_al, putO_iL, toD_iL, toD_d, flat_iL, flat_d, lst_nil, lst_one, lst_iE, lst_iD, nil_dT, nil_dL, fList_dL, fList_dT, fTuple_dL, fTuple_dT, fLen_dL, fLen_dT, fSum_dL, fCat_dL, fCat_int, fRep_dL, fRep_int, fSub_int, fMod_int, fDiv_int, fLt_int, fLe_int, fGt_int, fGe_int, fNeg_int, fAbs_int, fMax2_int, fMin2_int, fInt_int, fInt_bool, fSl_dL, fSl_dT, fSl3_dL, fSl3_dT, fEq_int, fNe_int, fEq_dL, fNe_dL, fEq_dT, fNe_dT, items_dL, items_dT, wSl, wSl3, wNo, wPart, wSq_eq, sqK_t, sqK_al, sqO_iL, qIx_eq, qIxK, lstAt_eq, lstO_iL, DL.placeOf, T.get, core_d, re_iL, re_d, T.put, List.getElem?_cons_zero, List.getElem?_cons_succ, List.set_cons_zero, List.set_cons_succ, List.length_cons, List.length_nil, iD_len, iE_len, and_true, true_and, Bool.not_true, Bool.not_false, if_true, if_false, Bool.false_eq_true, decide_eq_true_eq, Bool.not_eq_true', decide_eq_false_iff_not, wFor, wRng1, wRng2, wRng3, wName, endsD, startG, List.map_cons, List.map_nil, List.replicate, List.cons_append, List.nil_append, look, wCall, Option.some.injEq, exists_eq_left', wPar, DL.putAt, wSetQ, wApp_eq, appO_iL, isLst_iL, wPop_eq, popO_iL, Nat.zero_le, not_true_eq_false, not_false_eq_true, wLc, wipeG, restG, toD_iLL, varK_iLL, qvO_iLL, lstO_iLL, re_iLL, lst_iLL, items_tT, items_tL, takeO_iLL, putO_iLL, sqO_iLL, keepD_iLL, wZp, keepD_none, keepD_d, keepD_iL, items_tup, items_lst, wYes, wTTup, wTCons, wTNil, List.length_map, Int.toNat_natCast]
    refine ⟨hsm, hrl, cols _ _ ?_⟩
    simp only [wSeq, wSet, wAsg, wExpr, wRet, wIf, wTest, wNotT, wAndT, wOrT, wIfE, w1, w2, wn, wNil, wCons, wVar, varK_iL, varK_d, wC, wLst, wTup, wQ, qVar_eq, qvO_iL, qvO_d, qC, qI, qNeg, qLen, wNext, takesOf, take_al, take_t, takeO_iL, frzsOf, frzOf, datsOf, datOf, on1, on2, put_t, put_al, putO_iL, toD_iL, toD_d, flat_iL, flat_d, lst_nil, lst_one, lst_iE, lst_iD, nil_dT, nil_dL, fList_dL, fList_dT, fTuple_dL, fTuple_dT, fLen_dL, fLen_dT, fSum_dL, fCat_dL, fCat_int, fRep_dL, fRep_int, fSub_int, fMod_int, fDiv_int, fLt_int, fLe_int, fGt_int, fGe_int, fNeg_int, fAbs_int, fMax2_int, fMin2_int, fInt_int, fInt_bool, fSl_dL, fSl_dT, fSl3_dL, fSl3_dT, fEq_int, fNe_int, fEq_dL, fNe_dL, fEq_dT, fNe_dT, items_dL, items_dT, wSl, wSl3, wNo, wPart, wSq_eq, sqK_t, sqK_al, sqO_iL, qIx_eq, qIxK, lstAt_eq, lstO_iL, DL.placeOf, T.get, core_d, re_iL, re_d, T.put, List.getElem?_cons_zero, List.getElem?_cons_succ, List.set_cons_zero, List.set_cons_succ, List.length_cons, List.length_nil, iD_len, iE_len, and_true, true_and, Bool.not_true, Bool.not_false, if_true, if_false, Bool.false_eq_true, decide_eq_true_eq, Bool.not_eq_true', decide_eq_false_iff_not, wFor, wRng1, wRng2, wRng3, wName, endsD, startG, List.map_cons, List.map_nil, List.replicate, List.cons_append, List.nil_append, look, wCall, Option.some.injEq, exists_eq_left', wPar, DL.putAt, wSetQ, wApp_eq, appO_iL, isLst_iL, wPop_eq, popO_iL, Nat.zero_le, not_true_eq_false, not_false_eq_true, wLc, wipeG, restG, toD_iLL, varK_iLL, qvO_iLL, lstO_iLL, re_iLL, lst_iLL, items_tT, items_tL, takeO_iLL, putO_iLL, sqO_iLL, keepD_iLL, wZp, keepD_none, keepD_d, keepD_iL, items_tup, items_lst, wYes, wTTup, wTCons, wTNil, List.length_map]
    exact ⟨by decide, hA, fin dT _ (.inl rfl)⟩
  | l A =>
    simp only [W_multiplied_by, S_multiplied_by, Tb.d, wSeq, wSet, wAsg, wExpr, wRet, wIf, wTest, wNotT, wAndT, wOrT, wIfE, w1, w2, wn, wNil, wCons, wVar, varK_iL, varK_d, wC, wLst, wTup, wQ, qVar_eq, qvO_iL, qvO_d, qC, qI, qNeg, qLen, wNext, takesOf, take_al, take_t, takeO_iL, frzsOf, frzOf, datsOf, datOf, on1, on2, put_t, put_al, putO_iL, toD_iL, toD_d, flat_iL, flat_d, lst_nil, lst_one, lst_iE, lst_iD, nil_dT, nil_dL, fList_dL, fList_dT, fTuple_dL, fTuple_dT, fLen_dL, fLen_dT, fSum_dL, fCat_dL, fCat_int, fRep_dL, fRep_int, fSub_int, fMod_int, fDiv_int, fLt_int, fLe_int, fGt_int, fGe_int, fNeg_int, fAbs_int, fMax2_int, fMin2_int, fInt_int, fInt_bool, fSl_dL, fSl_dT, fSl3_dL, fSl3_dT, fEq_int, fNe_int, fEq_dL, fNe_dL, fEq_dT, fNe_dT, items_dL, items_dT, wSl, wSl3, wNo, wPart, wSq_eq, sqK_t, sqK_al, sqO_iL, qIx_eq, qIxK, lstAt_eq, lstO_iL, DL.placeOf, T.get, core_d, re_iL, re_d, T.put, List.getElem?_cons_zero, List.getElem?_cons_succ, List.set_cons_zero, List.set_cons_succ, List.length_cons, List.length_nil, iD_len, iE_len, and_true, true_and, Bool.not_true, Bool.not_false, if_true, if_false, Bool.false_eq_true, decide_eq_true_eq, Bool.not_eq_true', decide_eq_false_iff_not, wFor, wRng1, wRng2, wRng3, wName, endsD, startG, List.map_cons, List.map_nil, List.replicate, List.cons_append, List.nil_append, look, wCall, Option.some.injEq, exists_eq_left', wPar, DL.putAt, wSetQ, wApp_eq, appO_iL, isLst_iL, wPop_eq, popO_iL, Nat.zero_le, not_true_eq_false, not_false_eq_true, wLc, wipeG, restG, toD_iLL, varK_iLL, qvO_iLL, lstO_iLL, re_iLL, lst_iLL, items_tT, items_tL, takeO_iLL, putO_iLL, sqO_iLL, keepD_iLL, wZp, keepD_none, keepD_d, keepD_iL, items_tup, items_lst, wYes, wTTup, wTCons, wTNil, List.length_map, Int.toNat_natCast]
    refine ⟨hsm, hrl, cols _ _ ?_⟩
    simp only [wSeq, wSet, wAsg, wExpr, wRet, wIf, wTest, wNotT, wAndT, wOrT, wIfE, w1, w2, wn, wNil, wCons, wVar, varK_iL, varK_d, wC, wLst, wTup, wQ, qVar_eq, qvO_iL, qvO_d, qC, qI, qNeg, qLen, wNext, takesOf, take_al, take_t, takeO_iL, frzsOf, frzOf, datsOf, datOf, on1, on2, put_t, put_al, putO_iL, toD_iL, toD_d, flat_iL, flat_d, lst_nil, lst_one, lst_iE, lst_iD, nil_dT, nil_dL, fList_dL, fList_dT, fTuple_dL, fTuple_dT, fLen_dL, fLen_dT, fSum_dL, fCat_dL, fCat_int, fRep_dL, fRep_int, fSub_int, fMod_int, fDiv_int, fLt_int, fLe_int, fGt_int, fGe_int, fNeg_int, fAbs_int, fMax2_int, fMin2_int, fInt_int, fInt_bool, fSl_dL, fSl_dT, fSl3_dL, fSl3_dT, fEq_int, fNe_int, fEq_dL, fNe_dL, fEq_dT, fNe_dT, items_dL, items_dT, wSl, wSl3, wNo, wPart, wSq_eq, sqK_t, sqK_al, sqO_iL, qIx_eq, qIxK, lstAt_eq, lstO_iL, DL.placeOf, T.get, core_d, re_iL, re_d, T.put, List.getElem?_cons_zero, List.getElem?_cons_succ, List.set_cons_zero, List.set_cons_succ, List.length_cons, List.length_nil, iD_len, iE_len, and_true, true_and, Bool.not_true, Bool.not_false, if_true, if_false, Bool.false_eq_true, decide_eq_true_eq, Bool.not_eq_true', decide_eq_false_iff_not, wFor, wRng1, wRng2, wRng3, wName, endsD, startG, List.map_cons, List.map_nil, List.replicate, List.cons_append, List.nil_append, look, wCall, Option.some.injEq, exists_eq_left', wPar, DL.putAt, wSetQ, wApp_eq, appO_iL, isLst_iL, wPop_eq, popO_iL, Nat.zero_le, not_true_eq_false, not_false_eq_true, wLc, wipeG, restG, toD_iLL, varK_iLL, qvO_iLL, lstO_iLL, re_iLL, lst_iLL, items_tT, items_tL, takeO_iLL, putO_iLL, sqO_iLL, keepD_iLL, wZp, keepD_none, keepD_d, keepD_iL, items_tup, items_lst, wYes, wTTup, wTCons, wTNil, List.length_map]
    exact ⟨by decide, hA, fin dL _ (.inr rfl)⟩
end RT
end
section
set_option autoImplicit false
namespace RT
open PySem PySem.Spec PyProof.Rows L2 DL
def rowAt (M : List (List Int)) (i : Nat) : List Int := (M[i]?).getD []
def diagS (c : Int) : List (List Int) → Nat → Nat → List (List Int)
  | M, _, 0 => M
  | M, i, n + 1 => diagS c (M.set i ((rowAt M i).set i (at0 (rowAt M i) i + c))) (i + 1) n
def trT (A M : List (List Int)) : Int := ((List.range A.length).map fun i => dotP (rowAt A i) (M.map fun r => at0 r i)).sum
def flS (A : List (List Int)) : Nat → List (List Int) × List Int
  | 0 => (A.map fun _ => List.replicate A.length 0, [1])
  | m + 1 => (diagS (lastI (flS A m).2) (mulT A (flS A m).1) 0 A.length, (flS A m).2 ++ [0 - (trT A (diagS (lastI (flS A m).2) (mulT A (flS A m).1) 0 A.length)).fdiv ((m : Int) + 1)])
def ownT (A : List (List Int)) : List Int := (flS A A.length).2.reverse
/-- a table of so many lines, its numbers below 2 ^ a -/
def okTab (a : Nat) (A : List (List Int)) : Prop := A.length ≤ 12 ∧ (∀ r ∈ A, r.length = A.length) ∧ (∀ r ∈ A, ∀ x ∈ r, x.natAbs ≤ 2 ^ a) ∧ a ≤ 1000
def S_own_poly : FS := ⟨List (List Int), fun A => [tT A], fun A => ∃ a, okTab a A, fun A r => r = .d (dT (ownT A))⟩
/-- sums of powers -/
def psSum (p f : List Int) (m : Nat) : Nat → Int
  | 0 => 0
  | k + 1 => psSum p f m k - at0 p (p.length - 1 - (k + 1)) * at0 f (m - (k + 1))
def psNext (p f : List Int) (m : Nat) : Int := psSum p f m (min m p.length - 1) - (if m ≤ p.length - 1 then (m : Int) * at0 p (p.length - 1 - m) else 0)
def psL (p : List Int) : Nat → List Int
  | 0 => [((p.length - 1 : Nat) : Int)]
  | k + 1 => psL p k ++ [psNext p (psL p k) (k + 1)]
/-- monic, its numbers told by their places from the end -/
def okPoly (g : Nat) (p : List Int) : Prop := 1 ≤ p.length ∧ p.length ≤ 13 ∧ (∀ j, j ≤ p.length - 1 → (at0 p (p.length - 1 - j)).natAbs ≤ 2 ^ (g * j)) ∧ g ≤ 1100
def S_power_sums : FS := ⟨List Int × Nat, fun x => [dT x.1, .int x.2], fun x => (∃ g, okPoly g x.1) ∧ x.2 ≤ 14, fun x r => r = iL (psL x.1 x.2)⟩
end RT
end
section
/-! printed by gen.py: what each def reads -/
namespace RT
open PySem PySem.Spec PyProof.Rows L2 DL
def B_power_sums_1 : WS := (wSet 5 (w2 (wVar 5) (w2 (wQ (qIx (qVar 0) (qI (fun i j => i - j) (qVar 2) (qVar 6)))) (wQ (qIx (qVar 3) (qI (fun i j => i - j) (qVar 4) (qVar 6)))) fRep) fSub))
def B_power_sums_2 : WS := (wSeq (wSet 5 (wC (.int 0))) (wSeq (wFor (wRng2 (wCons (wC (.int 1)) (wCons (wn (wCons (wVar 4) (wCons (w2 (wVar 2) (wC (.int 1)) fCat) wNil)) (on2 fMin2)) wNil))) (wName 6) B_power_sums_1) (wSeq (wIf (wTest (w2 (wVar 4) (wVar 2) fLe)) (wSet 5 (w2 (wVar 5) (w2 (wVar 4) (wQ (qIx (qVar 0) (qI (fun i j => i - j) (qVar 2) (qVar 4)))) fRep) fSub)) wNext) (wExpr (fun G k => isLst G[3]? ∧ wApp 3 (wVar 5) G k)))))
def W_power_sums : WS := (wSeq (wSet 2 (w2 (wQ (qLen (qVar 0))) (wC (.int 1)) fSub)) (wSeq (wSet 3 (wLst (wCons (wVar 2) wNil))) (wSeq (wFor (wRng2 (wCons (wC (.int 1)) (wCons (w2 (wVar 1) (wC (.int 1)) fCat) wNil))) (wName 4) B_power_sums_2) (wRet (wVar 3)))))
def E_own_poly_1 : WE := (wQ (qIx (qVar 4) (qVar 6)))
def E_own_poly_2 : WE := (w2 (wVar 8) (wVar 9) fRep)
def E_own_poly_3 : WE := (wn (wCons (wLc (wZp (wCons (wQ (qIx (qVar 0) (qVar 6))) (wCons (wLc (wSq (wVar 3)) (wName 4) wYes E_own_poly_1 [4]) wNil))) (wTTup 2 (wTCons (wName 8) (wTCons (wName 9) wTNil))) wYes E_own_poly_2 [8, 9]) wNil) (on1 fSum))
def B_own_poly_4 : WS := (wSetQ (w2 (wQ (qIx (qIx (qVar 3) (qVar 6)) (qVar 6))) (wQ (qIx (qVar 2) (qNeg (qC (.int 1))))) fCat) (qIx (qVar 3) (qVar 6)) (qVar 6))
def B_own_poly_5 : WS := (wSeq (wSet 3 (wCall S_multiplied_by (wCons (wVar 0) (wCons (wVar 3) wNil)))) (wSeq (wFor (wRng1 (wCons (wVar 1) wNil)) (wName 6) B_own_poly_4) (wSeq (wSet 7 (wn (wCons (wLc (wRng1 (wCons (wVar 1) wNil)) (wName 6) wYes E_own_poly_3 [6]) wNil) (on1 fSum))) (wExpr (fun G k => isLst G[2]? ∧ wApp 2 (w2 (wC (.int 0)) (w2 (wVar 7) (wVar 5) fDiv) fSub) G k)))))
def E_own_poly_6 : WE := (w2 (wLst (wCons (wC (.int 0)) wNil)) (wVar 1) fRep)
def W_own_poly : WS := (wSeq (wSet 1 (wQ (qLen (qVar 0)))) (wSeq (wSet 2 (wLst (wCons (wC (.int 1)) wNil))) (wSeq (wSet 3 (wLc (wSq (wVar 0)) (wName 4) wYes E_own_poly_6 [4])) (wSeq (wFor (wRng2 (wCons (wC (.int 1)) (wCons (w2 (wVar 1) (wC (.int 1)) fCat) wNil))) (wName 5) B_own_poly_5) (wRet (wn (wCons (wSl3 (wVar 2) wNo wNo (wPart (w1 (wC (.int 1)) fNeg))) wNil) (on1 fTuple)))))))
end RT
end
section
set_option autoImplicit false
namespace RT
open PySem PySem.Spec PyProof.Rows L2 DL
/-! sizes -/
def Le (N : Nat) (x : Int) : Prop := x.natAbs ≤ N
theorem Le.bd {k : Nat} {x : Int} (h : Le (2 ^ k) x) : Bd (k + 1) x := by
  unfold Le at h
  unfold Bd
  rw [Nat.pow_succ]
  have : 0 < 2 ^ k := Nat.pow_pos (by decide)
  omega
theorem sum_le {N : Nat} : ∀ {xs : List Int}, (∀ x ∈ xs, Le N x) → Le (xs.length * N) xs.sum
  | [], _ => by
    show (0 : Int).natAbs ≤ 0 * N
    omega
  | x :: xs, h => by
    have h1 := h x List.mem_cons_self
    have h2 := sum_le fun y hy => h y (List.mem_cons_of_mem _ hy)
    unfold Le at *
    rw [List.sum_cons, List.length_cons, Nat.succ_mul]
    have := Int.natAbs_add_le x xs.sum
    omega
theorem dot_le {X Y : Nat} {a b : List Int} (ha : ∀ x ∈ a, Le X x) (hb : ∀ x ∈ b, Le Y x) : Le (a.length * (X * Y)) (dotP a b) := by
  have h : ∀ x ∈ List.zipWith (fun x y => x * y) a b, Le (X * Y) x := fun x hx => by
    obtain ⟨i, hi, e⟩ := List.getElem_of_mem hx
    rw [List.getElem_zipWith] at e
    rw [← e]
    unfold Le
    rw [Int.natAbs_mul]
    exact Nat.mul_le_mul (ha _ (List.getElem_mem _)) (hb _ (List.getElem_mem _))
  have h2 := sum_le h
  unfold dotP Le at *
  refine Nat.le_trans h2 (Nat.mul_le_mul_right _ ?_)
  rw [List.length_zipWith]
  omega
/-! what diagS keeps -/
theorem rowAt_get {M : List (List Int)} {i : Nat} (h : i < M.length) : M[i]? = some (rowAt M i) := by
  unfold rowAt
  rw [List.getElem?_eq_getElem h]
  rfl
theorem rowAt_mem {M : List (List Int)} {i : Nat} (h : i < M.length) : rowAt M i ∈ M := List.mem_of_getElem? (rowAt_get h)
theorem rowAt_set {M : List (List Int)} {i j : Nat} {r : List Int} (h : i < M.length) : rowAt (M.set i r) j = if i = j then r else rowAt M j := by
  unfold rowAt
  by_cases e : i = j
  · subst e
    rw [if_pos rfl, List.getElem?_set_self h]
    rfl
  · rw [if_neg e, List.getElem?_set_ne e]
theorem diagS_len (c : Int) : ∀ (n i : Nat) (M : List (List Int)), (diagS c M i n).length = M.length
  | 0, _, _ => rfl
  | n + 1, i, M => by rw [diagS, diagS_len c n, List.length_set]
/-- every number of it: the diagonal's are greater by c -/
theorem diagS_at (c : Int) : ∀ (n i : Nat) (M : List (List Int)) (r k : Nat), (∀ r ∈ M, r.length = M.length) → i + n ≤ M.length → r < M.length → k < M.length →
    at0 (rowAt (diagS c M i n) r) k = at0 (rowAt M r) k + (if r = k ∧ i ≤ r ∧ r < i + n then c else 0) ∧ (rowAt (diagS c M i n) r).length = M.length
  | 0, i, M, r, k, hsq, _, hr, hk => by
    rw [diagS, if_neg (by omega), Int.add_zero]
    exact ⟨rfl, hsq _ (rowAt_mem hr)⟩
  | n + 1, i, M, r, k, hsq, hi, hr, hk => by
    have hi' : i < M.length := by omega
    have hl : ((rowAt M i).set i (at0 (rowAt M i) i + c)).length = M.length := by rw [List.length_set, hsq _ (rowAt_mem hi')]
    have ih := diagS_at c n (i + 1) (M.set i ((rowAt M i).set i (at0 (rowAt M i) i + c))) r k (fun q hq => by
      rw [List.length_set]
      rcases List.mem_or_eq_of_mem_set hq with h | h
      · exact hsq q h
      · rw [h, hl]) (by rw [List.length_set]; omega) (by rw [List.length_set]; exact hr) (by rw [List.length_set]; exact hk)
    rw [List.length_set] at ih
    rw [diagS]
    refine ⟨?_, ih.2⟩
    rw [ih.1, rowAt_set hi']
    by_cases e : i = r
    · subst e
      rw [if_pos rfl, at0_set]
      by_cases e2 : i = k
      · subst e2
        rw [if_pos ⟨rfl, by rw [hsq _ (rowAt_mem hi')]; exact hk⟩, if_neg (by omega), if_pos ⟨rfl, by omega, by omega⟩]
        omega
      · rw [if_neg fun z => e2 z.1, if_neg fun z => e2 z.1, if_neg fun z => e2 z.1]
    · rw [if_neg e]
      by_cases h1 : r = k ∧ i + 1 ≤ r ∧ r < i + 1 + n
      · rw [if_pos h1, if_pos ⟨h1.1, by omega, by omega⟩]
      · rw [if_neg h1, if_neg fun z => h1 ⟨z.1, by omega, by omega⟩]
theorem mulT_len (A M : List (List Int)) : (mulT A M).length = A.length := List.length_map ..
theorem colsT_len (M : List (List Int)) : (colsT M).length = M.length := by
  unfold colsT
  rw [List.length_map, List.length_range]
theorem mulT_row {A M : List (List Int)} {r : List Int} (h : r ∈ mulT A M) : r.length = M.length := by
  obtain ⟨q, _, rfl⟩ := List.mem_map.mp h
  rw [List.length_map, colsT_len]
theorem at0_le {N : Nat} {xs : List Int} (h : ∀ x ∈ xs, Le N x) (j : Nat) : Le N (at0 xs j) := by
  by_cases hj : j < xs.length
  · exact h _ (at0_mem hj)
  · rw [at0_out (by omega)]
    exact Nat.zero_le _
theorem mulT_le {A M : List (List Int)} {n X Y : Nat} (hn : ∀ r ∈ A, r.length ≤ n) (hA : ∀ r ∈ A, ∀ x ∈ r, Le X x) (hM : ∀ r ∈ M, ∀ x ∈ r, Le Y x) : ∀ r ∈ mulT A M, ∀ x ∈ r, Le (n * (X * Y)) x := by
  intro r hr x hx
  obtain ⟨q, hq, rfl⟩ := List.mem_map.mp hr
  obtain ⟨c, hc, rfl⟩ := List.mem_map.mp hx
  obtain ⟨i, _, rfl⟩ := List.mem_map.mp hc
  have := dot_le (hA q hq) (b := M.map fun r => at0 r i) (Y := Y) (fun y hy => by
    obtain ⟨z, hz, rfl⟩ := List.mem_map.mp hy
    exact at0_le (hM z hz) i)
  exact Nat.le_trans this (Nat.mul_le_mul_right _ (hn q hq))
/-- the state of own_poly's loop -/
structure FlOk (a : Nat) (A : List (List Int)) (m : Nat) (M : List (List Int)) (f : List Int) : Prop where
  ml : M.length = A.length
  mr : ∀ r ∈ M, r.length = A.length
  mb : ∀ r ∈ M, ∀ x ∈ r, Le (2 ^ ((a + 9) * (m - 1) + 1)) x
  m0 : m = 0 → ∀ r ∈ M, ∀ x ∈ r, Le 0 x
  fl : f.length = m + 1
  fb : ∀ j, j ≤ m → Le (2 ^ ((a + 9) * j)) (at0 f j)
theorem flS_ok {a : Nat} {A : List (List Int)} (h : okTab a A) : ∀ m, FlOk a A m (flS A m).1 (flS A m).2
  | 0 => by
    refine ⟨List.length_map .., fun r hr => ?_, fun r hr x hx => ?_, fun _ r hr x hx => ?_, rfl, fun j hj => ?_⟩
    · obtain ⟨_, _, rfl⟩ := List.mem_map.mp hr
      exact List.length_replicate
    · obtain ⟨_, _, rfl⟩ := List.mem_map.mp hr
      rw [List.eq_of_mem_replicate hx]
      exact Nat.zero_le _
    · obtain ⟨_, _, rfl⟩ := List.mem_map.mp hr
      rw [List.eq_of_mem_replicate hx]
      exact Nat.zero_le _
    · have : j = 0 := by omega
      subst this
      rw [Nat.mul_zero]
      exact Nat.le_refl _
  | m + 1 => by
    obtain ⟨h12, hsq, hA, ha⟩ := h
    have ih := flS_ok ⟨h12, hsq, hA, ha⟩ m
    have hlast : lastI (flS A m).2 = at0 (flS A m).2 m := by
      unfold lastI
      rw [ih.fl, Nat.add_sub_cancel]
    have hc : Le (2 ^ ((a + 9) * m)) (lastI (flS A m).2) := by
      rw [hlast]
      exact ih.fb m (Nat.le_refl m)
    have hE : 0 < 2 ^ ((a + 9) * m) := Nat.pow_pos (by decide)
    -- the product
    have hP : ∀ r ∈ mulT A (flS A m).1, ∀ x ∈ r, Le (2 ^ ((a + 9) * m)) x := by
      cases m with
      | zero =>
        have := mulT_le (n := 12) (X := 2 ^ a) (Y := 0) (fun r hr => by rw [hsq r hr]; exact h12) hA (ih.m0 rfl)
        intro r hr x hx
        have := this r hr x hx
        unfold Le at *
        omega
      | succ m =>
        have := mulT_le (n := 12) (X := 2 ^ a) (Y := 2 ^ ((a + 9) * m + 1)) (fun r hr => by rw [hsq r hr]; exact h12) hA ih.mb
        intro r hr x hx
        have := this r hr x hx
        unfold Le at *
        refine Nat.le_trans this ?_
        rw [Nat.mul_succ, Nat.pow_add 2 ((a + 9) * m) 1, Nat.pow_add 2 ((a + 9) * m) (a + 9), Nat.pow_add 2 a 9, Nat.pow_one]
        generalize 2 ^ ((a + 9) * m) = X
        generalize 2 ^ a = Y
        have e : 12 * (Y * (X * 2)) = 24 * (X * Y) := by
          rw [Nat.mul_comm X 2, Nat.mul_left_comm Y 2 X, ← Nat.mul_assoc 12 2, Nat.mul_comm Y X]
        have e2 : X * (Y * 2 ^ 9) = 512 * (X * Y) := by
          rw [← Nat.mul_assoc, Nat.mul_comm]
        rw [e, e2]
        exact Nat.mul_le_mul_right _ (by decide)
    have hsqP : ∀ r ∈ mulT A (flS A m).1, r.length = (mulT A (flS A m).1).length := fun r hr => by rw [mulT_row hr, mulT_len, ih.ml]
    have hMl : (diagS (lastI (flS A m).2) (mulT A (flS A m).1) 0 A.length).length = A.length := by rw [diagS_len, mulT_len]
    have hD : ∀ r, r < A.length → (rowAt (diagS (lastI (flS A m).2) (mulT A (flS A m).1) 0 A.length) r).length = A.length ∧ ∀ k, Le (2 ^ ((a + 9) * m + 1)) (at0 (rowAt (diagS (lastI (flS A m).2) (mulT A (flS A m).1) 0 A.length) r) k) := by
      intro r hr
      have g := fun k hk => diagS_at (lastI (flS A m).2) A.length 0 (mulT A (flS A m).1) r k hsqP (by rw [mulT_len]; omega) (by rw [mulT_len]; exact hr) hk
      have hlen := (g 0 (by rw [mulT_len]; omega)).2
      rw [mulT_len] at hlen
      refine ⟨hlen, fun k => ?_⟩
      by_cases hk : k < A.length
      · rw [(g k (by rw [mulT_len]; exact hk)).1]
        have h1 : Le (2 ^ ((a + 9) * m)) (at0 (rowAt (mulT A (flS A m).1) r) k) := at0_le (hP _ (rowAt_mem (by rw [mulT_len]; exact hr))) k
        unfold Le at *
        rw [Nat.pow_succ]
        split
        · have := Int.natAbs_add_le (at0 (rowAt (mulT A (flS A m).1) r) k) (lastI (flS A m).2)
          omega
        · rw [Int.add_zero]
          omega
      · rw [at0_out (by omega)]
        exact Nat.zero_le _
    have hDm : ∀ r ∈ diagS (lastI (flS A m).2) (mulT A (flS A m).1) 0 A.length, r.length = A.length ∧ ∀ x ∈ r, Le (2 ^ ((a + 9) * m + 1)) x := by
      intro r hr
      obtain ⟨i, hi, e⟩ := List.getElem_of_mem hr
      have e2 : rowAt (diagS (lastI (flS A m).2) (mulT A (flS A m).1) 0 A.length) i = r := by
        unfold rowAt
        rw [List.getElem?_eq_getElem hi, e]
        rfl
      have := hD i (by rw [hMl] at hi; exact hi)
      rw [e2] at this
      refine ⟨this.1, fun x hx => ?_⟩
      obtain ⟨k, hk, e3⟩ := List.getElem_of_mem hx
      have := this.2 k
      unfold at0 at this
      rw [List.getElem?_eq_getElem hk, e3] at this
      exact this
    refine ⟨hMl, fun r hr => (hDm r hr).1, fun r hr x hx => (hDm r hr).2 x hx, fun z => absurd z (by omega), by rw [flS, List.length_append, ih.fl]; rfl, fun j hj => ?_⟩
    rw [flS]
    by_cases hjm : j ≤ m
    · rw [at0_app_l (by rw [ih.fl]; omega)]
      exact ih.fb j hjm
    · have e : j = m + 1 := by omega
      subst e
      have := at0_last (xs := (flS A m).2) (z := 0 - (trT A (diagS (lastI (flS A m).2) (mulT A (flS A m).1) 0 A.length)).fdiv ((m : Int) + 1))
      rw [ih.fl] at this
      rw [this]
      have ht : Le (12 * (12 * (2 ^ a * 2 ^ ((a + 9) * m + 1)))) (trT A (diagS (lastI (flS A m).2) (mulT A (flS A m).1) 0 A.length)) := by
        unfold trT
        have := sum_le (N := 12 * (2 ^ a * 2 ^ ((a + 9) * m + 1))) (xs := (List.range A.length).map fun i => dotP (rowAt A i) ((diagS (lastI (flS A m).2) (mulT A (flS A m).1) 0 A.length).map fun r => at0 r i)) (fun x hx => by
          obtain ⟨i, hi, rfl⟩ := List.mem_map.mp hx
          have hi := List.mem_range.mp hi
          have := dot_le (X := 2 ^ a) (Y := 2 ^ ((a + 9) * m + 1)) (a := rowAt A i) (b := (diagS (lastI (flS A m).2) (mulT A (flS A m).1) 0 A.length).map fun r => at0 r i) (hA _ (rowAt_mem hi)) (fun y hy => by
            obtain ⟨r, hr, rfl⟩ := List.mem_map.mp hy
            exact at0_le (hDm r hr).2 i)
          refine Nat.le_trans this (Nat.mul_le_mul_right _ ?_)
          rw [hsq _ (rowAt_mem hi)]
          exact h12)
        rw [List.length_map, List.length_range] at this
        exact Nat.le_trans this (Nat.mul_le_mul_right _ h12)
      unfold Le at *
      rw [Int.fdiv_eq_ediv_of_nonneg _ (by omega), show ∀ z : Int, (0 - z).natAbs = z.natAbs from fun z => by omega]
      refine Nat.le_trans (Int.natAbs_ediv_le_natAbs ..) (Nat.le_trans ht ?_)
      rw [Nat.mul_succ, Nat.pow_add 2 ((a + 9) * m) 1, Nat.pow_add 2 ((a + 9) * m) (a + 9), Nat.pow_add 2 a 9, Nat.pow_one]
      generalize 2 ^ ((a + 9) * m) = X
      generalize 2 ^ a = Y
      have e : 12 * (12 * (Y * (X * 2))) = 288 * (X * Y) := by
        rw [Nat.mul_comm X 2, Nat.mul_left_comm Y 2 X, ← Nat.mul_assoc 12 2, ← Nat.mul_assoc 12 (12 * 2), Nat.mul_comm Y X]
      have e2 : X * (Y * 2 ^ 9) = 512 * (X * Y) := by
        rw [← Nat.mul_assoc, Nat.mul_comm]
      rw [e, e2]
      exact Nat.mul_le_mul_right _ (by decide)
end RT
end
section
set_option autoImplicit false
namespace RT
open PySem PySem.Spec PyProof.Rows L2 DL
theorem diag_loop {a0 : PyData} {sz : Int} {f : List Int} {D : DEnds} (hf : 0 < f.length) {o5 o7 : Option T} : ∀ (n i : Nat) (M : List (List Int)) (o6 : Option T), (∀ r ∈ M, r.length = M.length) → i + n = M.length →
    (∀ o6, D.nx [some (.d a0), some (.d (.int sz)), some (iL f), some (iLL (diagS (lastI f) M i n)), none, o5, o6, o7, none, none]) →
    forW (wName 6) B_own_poly_4 (rangeD (i : Int) n) D [some (.d a0), some (.d (.int sz)), some (iL f), some (iLL M), none, o5, o6, o7, none, none]
  | 0, i, M, o6, _, _, h => by
    rw [rangeD_zero, forW]
    exact h o6
  | n + 1, i, M, o6, hsq, hi, h => by
    have hi' : i < M.length := by omega
    have hr := rowAt_get hi'
    have hl : i < (rowAt M i).length := by rw [hsq _ (rowAt_mem hi')]; exact hi'
    rw [rangeD_succ, forW]
    generalize hR : forW (wName 6) B_own_poly_4 (rangeD ((i : Int) + 1) n) D = R0
    simp only [B_own_poly_4, wSeq, wSet, wAsg, wExpr, wRet, wIf, wTest, wNotT, wAndT, wOrT, wIfE, w1, w2, wn, wNil, wCons, wVar, varK_iL, varK_d, wC, wLst, wTup, wQ, qVar_eq, qvO_iL, qvO_d, qC, qI, qNeg, qLen, wNext, takesOf, take_al, take_t, takeO_iL, frzsOf, frzOf, datsOf, datOf, on1, on2, put_t, put_al, putO_iL, toD_iL, toD_d, flat_iL, flat_d, lst_nil, lst_one, lst_iE, lst_iD, nil_dT, nil_dL, fList_dL, fList_dT, fTuple_dL, fTuple_dT, fLen_dL, fLen_dT, fSum_dL, fCat_dL, fCat_int, fRep_dL, fRep_int, fSub_int, fMod_int, fDiv_int, fLt_int, fLe_int, fGt_int, fGe_int, fNeg_int, fAbs_int, fMax2_int, fMin2_int, fInt_int, fInt_bool, fSl_dL, fSl_dT, fSl3_dL, fSl3_dT, fEq_int, fNe_int, fEq_dL, fNe_dL, fEq_dT, fNe_dT, items_dL, items_dT, wSl, wSl3, wNo, wPart, wSq_eq, sqK_t, sqK_al, sqO_iL, qIx_eq, qIxK, lstAt_eq, lstO_iL, DL.placeOf, T.get, core_d, re_iL, re_d, T.put, List.getElem?_cons_zero, List.getElem?_cons_succ, List.set_cons_zero, List.set_cons_succ, List.length_cons, List.length_nil, iD_len, iE_len, and_true, true_and, Bool.not_true, Bool.not_false, if_true, if_false, Bool.false_eq_true, decide_eq_true_eq, Bool.not_eq_true', decide_eq_false_iff_not, wFor, wRng1, wRng2, wRng3, wName, endsD, startG, List.map_cons, List.map_nil, List.replicate, List.cons_append, List.nil_append, look, wCall, Option.some.injEq, exists_eq_left', wPar, DL.putAt, wSetQ, wApp_eq, appO_iL, isLst_iL, wPop_eq, popO_iL, Nat.zero_le, not_true_eq_false, not_false_eq_true, wLc, wipeG, restG, toD_iLL, varK_iLL, qvO_iLL, lstO_iLL, re_iLL, lst_iLL, items_tT, items_tL, takeO_iLL, putO_iLL, sqO_iLL, keepD_iLL, wZp, keepD_none, keepD_d, keepD_iL, items_tup, items_lst, wYes, wTTup, wTCons, wTNil, qIxO_iLL (rfl : (i : Int) = (i : Int)) hr, kid_iLL hr, qIxO_at (rfl : (i : Int) = (i : Int)) hl, qIxO_last hf, ixN_of (rfl : (i : Int) = (i : Int)) hl, iE_set, setKid_iLL]
    refine ⟨by decide, ?_⟩
    have e3 : ((i : Int) + 1) = ((i + 1 : Nat) : Int) := by omega
    rw [← hR, e3]
    refine diag_loop hf n (i + 1) _ _ (fun r hr2 => ?_) (by rw [List.length_set]; omega) h
    rw [List.length_set]
    rcases List.mem_or_eq_of_mem_set hr2 with h | h
    · exact hsq r h
    · rw [h, List.length_set, hsq _ (rowAt_mem hi')]
theorem row_dT {A : List (List Int)} {i : Nat} (h : i < A.length) : atI (A.map dT) (i : Int) = some (dT (rowAt A i)) := atI_map rfl (rowAt_get h)
theorem tr_part {A M : List (List Int)} {B C : Nat} {sz : Int} {f : List Int} {o5 o7 : Option T} {k : List T → Gm → Prop} (hA : Bdt B A) (hM : Bdt C M) (hBC : B + C ≤ 134217728) (h12 : A.length ≤ 12) (hsqA : ∀ r ∈ A, r.length = A.length) (hsq : ∀ r ∈ M, r.length = A.length) (hl : M.length = A.length) {o3 : T} (ho : o3 = iLL M ∨ o3 = .d (tL M))
    (h : ∀ o3, (o3 = iLL M ∨ o3 = .d (tL M)) → k (iE ((List.range A.length).map fun i => dotP (rowAt A i) (M.map fun r => at0 r i))) [some (.d (tT A)), some (.d (.int sz)), some (iL f), some o3, none, o5, none, o7, none, none]) :
    lcW (wName 6) wYes E_own_poly_3 [6] (rangeD 0 A.length) [] [some (.d (tT A)), some (.d (.int sz)), some (iL f), some o3, none, o5, none, o7, none, none] k := by
  have er : rangeD 0 A.length = (List.range A.length).map fun (i : Nat) => PyData.int (0 + (i : Int)) := rfl
  rw [er]
  refine lcW_rowsS (fun G => ∃ o3, (o3 = iLL M ∨ o3 = .d (tL M)) ∧ G = [some (.d (tT A)), some (.d (.int sz)), some (iL f), some o3, none, o5, none, o7, none, none]) (fun (i : Nat) => PyData.int (0 + (i : Int))) (fun i => .d (.int (dotP (rowAt A i) (M.map fun r => at0 r i)))) _ ⟨o3, ho, rfl⟩ (fun i hi G hG R R2 hR => ?_) (fun G hG => ?_)
  · obtain ⟨o3, ho, rfl⟩ := hG
    have hi := List.mem_range.mp hi
    have e1 : ((0 : Int) + (i : Int)) = (i : Int) := by omega
    rw [e1]
    have hR' := hR [some (.d (tT A)), some (.d (.int sz)), some (iL f), some (.d (tL M)), none, o5, none, o7, none, none] ⟨_, .inr rfl, rfl⟩
    have hML : M.length ≤ sizeLine := le1000 (by omega)
    rcases ho with rfl | rfl
    all_goals
      simp only [E_own_poly_3, wSeq, wSet, wAsg, wExpr, wRet, wIf, wTest, wNotT, wAndT, wOrT, wIfE, w1, w2, wn, wNil, wCons, wVar, varK_iL, varK_d, wC, wLst, wTup, wQ, qVar_eq, qvO_iL, qvO_d, qC, qI, qNeg, qLen, wNext, takesOf, take_al, take_t, takeO_iL, frzsOf, frzOf, datsOf, datOf, on1, on2, put_t, put_al, putO_iL, toD_iL, toD_d, flat_iL, flat_d, lst_nil, lst_one, lst_iE, lst_iD, nil_dT, nil_dL, fList_dL, fList_dT, fTuple_dL, fTuple_dT, fLen_dL, fLen_dT, fSum_dL, fCat_dL, fCat_int, fRep_dL, fRep_int, fSub_int, fMod_int, fDiv_int, fLt_int, fLe_int, fGt_int, fGe_int, fNeg_int, fAbs_int, fMax2_int, fMin2_int, fInt_int, fInt_bool, fSl_dL, fSl_dT, fSl3_dL, fSl3_dT, fEq_int, fNe_int, fEq_dL, fNe_dL, fEq_dT, fNe_dT, items_dL, items_dT, wSl, wSl3, wNo, wPart, wSq_eq, sqK_t, sqK_al, sqO_iL, qIx_eq, qIxK, lstAt_eq, lstO_iL, DL.placeOf, T.get, core_d, re_iL, re_d, T.put, List.getElem?_cons_zero, List.getElem?_cons_succ, List.set_cons_zero, List.set_cons_succ, List.length_cons, List.length_nil, iD_len, iE_len, and_true, true_and, Bool.not_true, Bool.not_false, if_true, if_false, Bool.false_eq_true, decide_eq_true_eq, Bool.not_eq_true', decide_eq_false_iff_not, wFor, wRng1, wRng2, wRng3, wName, endsD, startG, List.map_cons, List.map_nil, List.replicate, List.cons_append, List.nil_append, look, wCall, Option.some.injEq, exists_eq_left', wPar, DL.putAt, wSetQ, wApp_eq, appO_iL, isLst_iL, wPop_eq, popO_iL, Nat.zero_le, not_true_eq_false, not_false_eq_true, wLc, wipeG, restG, toD_iLL, varK_iLL, qvO_iLL, lstO_iLL, re_iLL, lst_iLL, items_tT, items_tL, takeO_iLL, putO_iLL, sqO_iLL, keepD_iLL, wZp, keepD_none, keepD_d, keepD_iL, items_tup, items_lst, wYes, wTTup, wTCons, wTNil, row_dT hi, List.length_map]
      refine ⟨by decide, hML, lcW_rows dL (fun _ _ => dL_inj) (fun r => .d (.int (at0 r i))) M (fun r hr R R2 hR => ?_) ?_⟩
      · simp only [E_own_poly_1, wSeq, wSet, wAsg, wExpr, wRet, wIf, wTest, wNotT, wAndT, wOrT, wIfE, w1, w2, wn, wNil, wCons, wVar, varK_iL, varK_d, wC, wLst, wTup, wQ, qVar_eq, qvO_iL, qvO_d, qC, qI, qNeg, qLen, wNext, takesOf, take_al, take_t, takeO_iL, frzsOf, frzOf, datsOf, datOf, on1, on2, put_t, put_al, putO_iL, toD_iL, toD_d, flat_iL, flat_d, lst_nil, lst_one, lst_iE, lst_iD, nil_dT, nil_dL, fList_dL, fList_dT, fTuple_dL, fTuple_dT, fLen_dL, fLen_dT, fSum_dL, fCat_dL, fCat_int, fRep_dL, fRep_int, fSub_int, fMod_int, fDiv_int, fLt_int, fLe_int, fGt_int, fGe_int, fNeg_int, fAbs_int, fMax2_int, fMin2_int, fInt_int, fInt_bool, fSl_dL, fSl_dT, fSl3_dL, fSl3_dT, fEq_int, fNe_int, fEq_dL, fNe_dL, fEq_dT, fNe_dT, items_dL, items_dT, wSl, wSl3, wNo, wPart, wSq_eq, sqK_t, sqK_al, sqO_iL, qIx_eq, qIxK, lstAt_eq, lstO_iL, DL.placeOf, T.get, core_d, re_iL, re_d, T.put, List.getElem?_cons_zero, List.getElem?_cons_succ, List.set_cons_zero, List.set_cons_succ, List.length_cons, List.length_nil, iD_len, iE_len, and_true, true_and, Bool.not_true, Bool.not_false, if_true, if_false, Bool.false_eq_true, decide_eq_true_eq, Bool.not_eq_true', decide_eq_false_iff_not, wFor, wRng1, wRng2, wRng3, wName, endsD, startG, List.map_cons, List.map_nil, List.replicate, List.cons_append, List.nil_append, look, wCall, Option.some.injEq, exists_eq_left', wPar, DL.putAt, wSetQ, wApp_eq, appO_iL, isLst_iL, wPop_eq, popO_iL, Nat.zero_le, not_true_eq_false, not_false_eq_true, wLc, wipeG, restG, toD_iLL, varK_iLL, qvO_iLL, lstO_iLL, re_iLL, lst_iLL, items_tT, items_tL, takeO_iLL, putO_iLL, sqO_iLL, keepD_iLL, wZp, keepD_none, keepD_d, keepD_iL, items_tup, items_lst, wYes, wTTup, wTCons, wTNil, items_dL, atI_at (rfl : (i : Int) = (i : Int)) (lt1 (hsq r hr) hi)]
        exact ⟨by decide, hR⟩
      · rw [rows_map]
        simp only [wSeq, wSet, wAsg, wExpr, wRet, wIf, wTest, wNotT, wAndT, wOrT, wIfE, w1, w2, wn, wNil, wCons, wVar, varK_iL, varK_d, wC, wLst, wTup, wQ, qVar_eq, qvO_iL, qvO_d, qC, qI, qNeg, qLen, wNext, takesOf, take_al, take_t, takeO_iL, frzsOf, frzOf, datsOf, datOf, on1, on2, put_t, put_al, putO_iL, toD_iL, toD_d, flat_iL, flat_d, lst_nil, lst_one, lst_iE, lst_iD, nil_dT, nil_dL, fList_dL, fList_dT, fTuple_dL, fTuple_dT, fLen_dL, fLen_dT, fSum_dL, fCat_dL, fCat_int, fRep_dL, fRep_int, fSub_int, fMod_int, fDiv_int, fLt_int, fLe_int, fGt_int, fGe_int, fNeg_int, fAbs_int, fMax2_int, fMin2_int, fInt_int, fInt_bool, fSl_dL, fSl_dT, fSl3_dL, fSl3_dT, fEq_int, fNe_int, fEq_dL, fNe_dL, fEq_dT, fNe_dT, items_dL, items_dT, wSl, wSl3, wNo, wPart, wSq_eq, sqK_t, sqK_al, sqO_iL, qIx_eq, qIxK, lstAt_eq, lstO_iL, DL.placeOf, T.get, core_d, re_iL, re_d, T.put, List.getElem?_cons_zero, List.getElem?_cons_succ, List.set_cons_zero, List.set_cons_succ, List.length_cons, List.length_nil, iD_len, iE_len, and_true, true_and, Bool.not_true, Bool.not_false, if_true, if_false, Bool.false_eq_true, decide_eq_true_eq, Bool.not_eq_true', decide_eq_false_iff_not, wFor, wRng1, wRng2, wRng3, wName, endsD, startG, List.map_cons, List.map_nil, List.replicate, List.cons_append, List.nil_append, look, wCall, Option.some.injEq, exists_eq_left', wPar, DL.putAt, wSetQ, wApp_eq, appO_iL, isLst_iL, wPop_eq, popO_iL, Nat.zero_le, not_true_eq_false, not_false_eq_true, wLc, wipeG, restG, toD_iLL, varK_iLL, qvO_iLL, lstO_iLL, re_iLL, lst_iLL, items_tT, items_tL, takeO_iLL, putO_iLL, sqO_iLL, keepD_iLL, wZp, keepD_none, keepD_d, keepD_iL, items_tup, items_lst, wYes, wTTup, wTCons, wTNil]
        refine ⟨Nat.le_trans (zip_len _ _) (le1000 (by rw [hsqA _ (rowAt_mem hi)]; omega)), ?_⟩
        refine lcW_pairs (fun x y => x * y) (rowAt A i) (M.map fun r => at0 r i) (fun x hx y hy R R2 hR => ?_) ?_
        · simp only [E_own_poly_2, wSeq, wSet, wAsg, wExpr, wRet, wIf, wTest, wNotT, wAndT, wOrT, wIfE, w1, w2, wn, wNil, wCons, wVar, varK_iL, varK_d, wC, wLst, wTup, wQ, qVar_eq, qvO_iL, qvO_d, qC, qI, qNeg, qLen, wNext, takesOf, take_al, take_t, takeO_iL, frzsOf, frzOf, datsOf, datOf, on1, on2, put_t, put_al, putO_iL, toD_iL, toD_d, flat_iL, flat_d, lst_nil, lst_one, lst_iE, lst_iD, nil_dT, nil_dL, fList_dL, fList_dT, fTuple_dL, fTuple_dT, fLen_dL, fLen_dT, fSum_dL, fCat_dL, fCat_int, fRep_dL, fRep_int, fSub_int, fMod_int, fDiv_int, fLt_int, fLe_int, fGt_int, fGe_int, fNeg_int, fAbs_int, fMax2_int, fMin2_int, fInt_int, fInt_bool, fSl_dL, fSl_dT, fSl3_dL, fSl3_dT, fEq_int, fNe_int, fEq_dL, fNe_dL, fEq_dT, fNe_dT, items_dL, items_dT, wSl, wSl3, wNo, wPart, wSq_eq, sqK_t, sqK_al, sqO_iL, qIx_eq, qIxK, lstAt_eq, lstO_iL, DL.placeOf, T.get, core_d, re_iL, re_d, T.put, List.getElem?_cons_zero, List.getElem?_cons_succ, List.set_cons_zero, List.set_cons_succ, List.length_cons, List.length_nil, iD_len, iE_len, and_true, true_and, Bool.not_true, Bool.not_false, if_true, if_false, Bool.false_eq_true, decide_eq_true_eq, Bool.not_eq_true', decide_eq_false_iff_not, wFor, wRng1, wRng2, wRng3, wName, endsD, startG, List.map_cons, List.map_nil, List.replicate, List.cons_append, List.nil_append, look, wCall, Option.some.injEq, exists_eq_left', wPar, DL.putAt, wSetQ, wApp_eq, appO_iL, isLst_iL, wPop_eq, popO_iL, Nat.zero_le, not_true_eq_false, not_false_eq_true, wLc, wipeG, restG, toD_iLL, varK_iLL, qvO_iLL, lstO_iLL, re_iLL, lst_iLL, items_tT, items_tL, takeO_iLL, putO_iLL, sqO_iLL, keepD_iLL, wZp, keepD_none, keepD_d, keepD_iL, items_tup, items_lst, wYes, wTTup, wTCons, wTNil]
          refine ⟨by decide, by decide, mulOk (hA _ (rowAt_mem hi) x hx) ?_ hBC, hR⟩
          obtain ⟨r, hr, rfl⟩ := List.mem_map.mp hy
          exact (hM r hr).at0 i
        · simp only [wSeq, wSet, wAsg, wExpr, wRet, wIf, wTest, wNotT, wAndT, wOrT, wIfE, w1, w2, wn, wNil, wCons, wVar, varK_iL, varK_d, wC, wLst, wTup, wQ, qVar_eq, qvO_iL, qvO_d, qC, qI, qNeg, qLen, wNext, takesOf, take_al, take_t, takeO_iL, frzsOf, frzOf, datsOf, datOf, on1, on2, put_t, put_al, putO_iL, toD_iL, toD_d, flat_iL, flat_d, lst_nil, lst_one, lst_iE, lst_iD, nil_dT, nil_dL, fList_dL, fList_dT, fTuple_dL, fTuple_dT, fLen_dL, fLen_dT, fSum_dL, fCat_dL, fCat_int, fRep_dL, fRep_int, fSub_int, fMod_int, fDiv_int, fLt_int, fLe_int, fGt_int, fGe_int, fNeg_int, fAbs_int, fMax2_int, fMin2_int, fInt_int, fInt_bool, fSl_dL, fSl_dT, fSl3_dL, fSl3_dT, fEq_int, fNe_int, fEq_dL, fNe_dL, fEq_dT, fNe_dT, items_dL, items_dT, wSl, wSl3, wNo, wPart, wSq_eq, sqK_t, sqK_al, sqO_iL, qIx_eq, qIxK, lstAt_eq, lstO_iL, DL.placeOf, T.get, core_d, re_iL, re_d, T.put, List.getElem?_cons_zero, List.getElem?_cons_succ, List.set_cons_zero, List.set_cons_succ, List.length_cons, List.length_nil, iD_len, iE_len, and_true, true_and, Bool.not_true, Bool.not_false, if_true, if_false, Bool.false_eq_true, decide_eq_true_eq, Bool.not_eq_true', decide_eq_false_iff_not, wFor, wRng1, wRng2, wRng3, wName, endsD, startG, List.map_cons, List.map_nil, List.replicate, List.cons_append, List.nil_append, look, wCall, Option.some.injEq, exists_eq_left', wPar, DL.putAt, wSetQ, wApp_eq, appO_iL, isLst_iL, wPop_eq, popO_iL, Nat.zero_le, not_true_eq_false, not_false_eq_true, wLc, wipeG, restG, toD_iLL, varK_iLL, qvO_iLL, lstO_iLL, re_iLL, lst_iLL, items_tT, items_tL, takeO_iLL, putO_iLL, sqO_iLL, keepD_iLL, wZp, keepD_none, keepD_d, keepD_iL, items_tup, items_lst, wYes, wTTup, wTCons, wTNil]
          exact hR'
  · obtain ⟨o3, ho, rfl⟩ := hG
    rw [map_iE']
    exact h o3 ho
theorem fl_loop {a : Nat} {A : List (List Int)} {D : DEnds} (ht : okTab a A) : ∀ (n m : Nat) (o3 : T) (o5 o6 o7 : Option T), m + n = A.length → (o3 = iLL (flS A m).1 ∨ o3 = .d (tL (flS A m).1)) →
    (∀ o3 o5 o6 o7, D.nx [some (.d (tT A)), some (.d (.int A.length)), some (iL (flS A (m + n)).2), some o3, none, o5, o6, o7, none, none]) →
    forW (wName 5) B_own_poly_5 (rangeD ((m : Int) + 1) n) D [some (.d (tT A)), some (.d (.int A.length)), some (iL (flS A m).2), some o3, none, o5, o6, o7, none, none]
  | 0, m, o3, o5, o6, o7, _, _, h => by
    rw [rangeD_zero, forW]
    exact h _ _ _ _
  | n + 1, m, o3, o5, o6, o7, hm, ho, h => by
    have hfl := flS_ok ht m
    have hfl1 := flS_ok ht (m + 1)
    obtain ⟨h12, hsq, hA, ha⟩ := ht
    have ht : okTab a A := ⟨h12, hsq, hA, ha⟩
    have hBA : Bdt (a + 1) A := fun r hr x hx => Le.bd (hA r hr x hx)
    have hBM : Bdt ((a + 9) * (m - 1) + 1 + 1) (flS A m).1 := fun r hr x hx => Le.bd (hfl.mb r hr x hx)
    have hBM1 : Bdt ((a + 9) * (m + 1 - 1) + 1 + 1) (flS A (m + 1)).1 := fun r hr x hx => Le.bd (hfl1.mb r hr x hx)
    have hb1 : (a + 9) * (m - 1) ≤ 1009 * 12 := Nat.mul_le_mul (by omega) (by omega)
    have hb2 : (a + 9) * (m + 1 - 1) ≤ 1009 * 12 := Nat.mul_le_mul (by omega) (by omega)
    have hmul : S_multiplied_by.pre (.t A, (flS A m).1) := ⟨by show A.length ≤ 1000; omega, fun r hr => by rw [hsq r hr]; omega, by show (flS A m).1.length ≤ 1000; rw [hfl.ml]; omega, fun r hr => by rw [hfl.mr r hr]; exact hfl.ml.symm, _, _, hBA, hBM, by omega⟩
    have hf : 0 < (flS A m).2.length := by rw [hfl.fl]; omega
    rw [rangeD_succ, forW]
    generalize hR : forW (wName 5) B_own_poly_5 (rangeD ((m : Int) + 1 + 1) n) D = R0
    have fin : ∀ o3 o6 o7, (o3 = iLL (flS A (m + 1)).1 ∨ o3 = .d (tL (flS A (m + 1)).1)) → R0 [some (.d (tT A)), some (.d (.int A.length)), some (iL (flS A (m + 1)).2), some o3, none, some (.d (.int ((m : Int) + 1))), o6, o7, none, none] := by
      intro o3 o6 o7 ho
      have e3 : ((m : Int) + 1 + 1) = ((m + 1 : Nat) : Int) + 1 := by omega
      rw [← hR, e3]
      exact fl_loop ht n (m + 1) o3 _ o6 o7 (by omega) ho (by rw [show m + 1 + n = m + (n + 1) by omega]; exact h)
    have e1 : ((0 : Nat) : Int) = 0 := rfl
    rcases ho with rfl | rfl
    all_goals
      simp only [B_own_poly_5, wSeq, wSet, wAsg, wExpr, wRet, wIf, wTest, wNotT, wAndT, wOrT, wIfE, w1, w2, wn, wNil, wCons, wVar, varK_iL, varK_d, wC, wLst, wTup, wQ, qVar_eq, qvO_iL, qvO_d, qC, qI, qNeg, qLen, wNext, takesOf, take_al, take_t, takeO_iL, frzsOf, frzOf, datsOf, datOf, on1, on2, put_t, put_al, putO_iL, toD_iL, toD_d, flat_iL, flat_d, lst_nil, lst_one, lst_iE, lst_iD, nil_dT, nil_dL, fList_dL, fList_dT, fTuple_dL, fTuple_dT, fLen_dL, fLen_dT, fSum_dL, fCat_dL, fCat_int, fRep_dL, fRep_int, fSub_int, fMod_int, fDiv_int, fLt_int, fLe_int, fGt_int, fGe_int, fNeg_int, fAbs_int, fMax2_int, fMin2_int, fInt_int, fInt_bool, fSl_dL, fSl_dT, fSl3_dL, fSl3_dT, fEq_int, fNe_int, fEq_dL, fNe_dL, fEq_dT, fNe_dT, items_dL, items_dT, wSl, wSl3, wNo, wPart, wSq_eq, sqK_t, sqK_al, sqO_iL, qIx_eq, qIxK, lstAt_eq, lstO_iL, DL.placeOf, T.get, core_d, re_iL, re_d, T.put, List.getElem?_cons_zero, List.getElem?_cons_succ, List.set_cons_zero, List.set_cons_succ, List.length_cons, List.length_nil, iD_len, iE_len, and_true, true_and, Bool.not_true, Bool.not_false, if_true, if_false, Bool.false_eq_true, decide_eq_true_eq, Bool.not_eq_true', decide_eq_false_iff_not, wFor, wRng1, wRng2, wRng3, wName, endsD, startG, List.map_cons, List.map_nil, List.replicate, List.cons_append, List.nil_append, look, wCall, Option.some.injEq, exists_eq_left', wPar, DL.putAt, wSetQ, wApp_eq, appO_iL, isLst_iL, wPop_eq, popO_iL, Nat.zero_le, not_true_eq_false, not_false_eq_true, wLc, wipeG, restG, toD_iLL, varK_iLL, qvO_iLL, lstO_iLL, re_iLL, lst_iLL, items_tT, items_tL, takeO_iLL, putO_iLL, sqO_iLL, keepD_iLL, wZp, keepD_none, keepD_d, keepD_iL, items_tup, items_lst, wYes, wTTup, wTCons, wTNil, Int.toNat_natCast]
      refine ⟨by decide, (.t A, (flS A m).1), rfl, hmul, fun r hr => ?_⟩
      have hr : r = iLL (mulT A (flS A m).1) := hr
      subst hr
      refine ⟨by decide, ⟨by omega, by omega⟩, ?_⟩
      refine diag_loop hf A.length 0 (mulT A (flS A m).1) _ (fun r hr => by rw [mulT_row hr, mulT_len, hfl.ml]) (by rw [mulT_len]; omega) fun o6 => ?_
      simp only [wSeq, wSet, wAsg, wExpr, wRet, wIf, wTest, wNotT, wAndT, wOrT, wIfE, w1, w2, wn, wNil, wCons, wVar, varK_iL, varK_d, wC, wLst, wTup, wQ, qVar_eq, qvO_iL, qvO_d, qC, qI, qNeg, qLen, wNext, takesOf, take_al, take_t, takeO_iL, frzsOf, frzOf, datsOf, datOf, on1, on2, put_t, put_al, putO_iL, toD_iL, toD_d, flat_iL, flat_d, lst_nil, lst_one, lst_iE, lst_iD, nil_dT, nil_dL, fList_dL, fList_dT, fTuple_dL, fTuple_dT, fLen_dL, fLen_dT, fSum_dL, fCat_dL, fCat_int, fRep_dL, fRep_int, fSub_int, fMod_int, fDiv_int, fLt_int, fLe_int, fGt_int, fGe_int, fNeg_int, fAbs_int, fMax2_int, fMin2_int, fInt_int, fInt_bool, fSl_dL, fSl_dT, fSl3_dL, fSl3_dT, fEq_int, fNe_int, fEq_dL, fNe_dL, fEq_dT, fNe_dT, items_dL, items_dT, wSl, wSl3, wNo, wPart, wSq_eq, sqK_t, sqK_al, sqO_iL, qIx_eq, qIxK, lstAt_eq, lstO_iL, DL.placeOf, T.get, core_d, re_iL, re_d, T.put, List.getElem?_cons_zero, List.getElem?_cons_succ, List.set_cons_zero, List.set_cons_succ, List.length_cons, List.length_nil, iD_len, iE_len, and_true, true_and, Bool.not_true, Bool.not_false, if_true, if_false, Bool.false_eq_true, decide_eq_true_eq, Bool.not_eq_true', decide_eq_false_iff_not, wFor, wRng1, wRng2, wRng3, wName, endsD, startG, List.map_cons, List.map_nil, List.replicate, List.cons_append, List.nil_append, look, wCall, Option.some.injEq, exists_eq_left', wPar, DL.putAt, wSetQ, wApp_eq, appO_iL, isLst_iL, wPop_eq, popO_iL, Nat.zero_le, not_true_eq_false, not_false_eq_true, wLc, wipeG, restG, toD_iLL, varK_iLL, qvO_iLL, lstO_iLL, re_iLL, lst_iLL, items_tT, items_tL, takeO_iLL, putO_iLL, sqO_iLL, keepD_iLL, wZp, keepD_none, keepD_d, keepD_iL, items_tup, items_lst, wYes, wTTup, wTCons, wTNil, Int.toNat_natCast]
      refine ⟨⟨by omega, by omega⟩, by rw [rangeD_len]; exact le1000 (by omega), ?_⟩
      refine tr_part (M := (flS A (m + 1)).1) hBA hBM1 (by omega) h12 hsq hfl1.mr hfl1.ml (.inl rfl) fun o3 ho => ?_
      simp only [wSeq, wSet, wAsg, wExpr, wRet, wIf, wTest, wNotT, wAndT, wOrT, wIfE, w1, w2, wn, wNil, wCons, wVar, varK_iL, varK_d, wC, wLst, wTup, wQ, qVar_eq, qvO_iL, qvO_d, qC, qI, qNeg, qLen, wNext, takesOf, take_al, take_t, takeO_iL, frzsOf, frzOf, datsOf, datOf, on1, on2, put_t, put_al, putO_iL, toD_iL, toD_d, flat_iL, flat_d, lst_nil, lst_one, lst_iE, lst_iD, nil_dT, nil_dL, fList_dL, fList_dT, fTuple_dL, fTuple_dT, fLen_dL, fLen_dT, fSum_dL, fCat_dL, fCat_int, fRep_dL, fRep_int, fSub_int, fMod_int, fDiv_int, fLt_int, fLe_int, fGt_int, fGe_int, fNeg_int, fAbs_int, fMax2_int, fMin2_int, fInt_int, fInt_bool, fSl_dL, fSl_dT, fSl3_dL, fSl3_dT, fEq_int, fNe_int, fEq_dL, fNe_dL, fEq_dT, fNe_dT, items_dL, items_dT, wSl, wSl3, wNo, wPart, wSq_eq, sqK_t, sqK_al, sqO_iL, qIx_eq, qIxK, lstAt_eq, lstO_iL, DL.placeOf, T.get, core_d, re_iL, re_d, T.put, List.getElem?_cons_zero, List.getElem?_cons_succ, List.set_cons_zero, List.set_cons_succ, List.length_cons, List.length_nil, iD_len, iE_len, and_true, true_and, Bool.not_true, Bool.not_false, if_true, if_false, Bool.false_eq_true, decide_eq_true_eq, Bool.not_eq_true', decide_eq_false_iff_not, wFor, wRng1, wRng2, wRng3, wName, endsD, startG, List.map_cons, List.map_nil, List.replicate, List.cons_append, List.nil_append, look, wCall, Option.some.injEq, exists_eq_left', wPar, DL.putAt, wSetQ, wApp_eq, appO_iL, isLst_iL, wPop_eq, popO_iL, Nat.zero_le, not_true_eq_false, not_false_eq_true, wLc, wipeG, restG, toD_iLL, varK_iLL, qvO_iLL, lstO_iLL, re_iLL, lst_iLL, items_tT, items_tL, takeO_iLL, putO_iLL, sqO_iLL, keepD_iLL, wZp, keepD_none, keepD_d, keepD_iL, items_tup, items_lst, wYes, wTTup, wTCons, wTNil]
      refine ⟨by decide, by omega, by rw [hfl.fl]; exact Nat.lt_of_lt_of_le (show m + 1 < 1000 by omega) (by decide), ?_⟩
      exact fin o3 _ _ ho
theorem WK_own_poly : ∀ x, S_own_poly.pre x → W_own_poly (endsD (S_own_poly.post x)) (startG 10 (S_own_poly.args x)) := by
  intro (A : List (List Int)) ⟨a, ht⟩
  have h12 : A.length ≤ 12 := ht.1
  have main : ∀ D : DEnds, (∀ o3 o5 o6 o7, D.nx [some (.d (tT A)), some (.d (.int A.length)), some (iL (flS A A.length).2), some o3, none, o5, o6, o7, none, none]) → forW (wName 5) B_own_poly_5 (rangeD 1 A.length) D [some (.d (tT A)), some (.d (.int A.length)), some (iL [1]), some (iLL (flS A 0).1), none, none, none, none, none, none] := fun D h =>
    fl_loop ht A.length 0 (iLL (flS A 0).1) none none none (by omega) (.inl rfl) (by rw [Nat.zero_add]; exact h)
  simp only [W_own_poly, S_own_poly, wSeq, wSet, wAsg, wExpr, wRet, wIf, wTest, wNotT, wAndT, wOrT, wIfE, w1, w2, wn, wNil, wCons, wVar, varK_iL, varK_d, wC, wLst, wTup, wQ, qVar_eq, qvO_iL, qvO_d, qC, qI, qNeg, qLen, wNext, takesOf, take_al, take_t, takeO_iL, frzsOf, frzOf, datsOf, datOf, on1, on2, put_t, put_al, putO_iL, toD_iL, toD_d, flat_iL, flat_d, lst_nil, lst_one, lst_iE, lst_iD, nil_dT, nil_dL, fList_dL, fList_dT, fTuple_dL, fTuple_dT, fLen_dL, fLen_dT, fSum_dL, fCat_dL, fCat_int, fRep_dL, fRep_int, fSub_int, fMod_int, fDiv_int, fLt_int, fLe_int, fGt_int, fGe_int, fNeg_int, fAbs_int, fMax2_int, fMin2_int, fInt_int, fInt_bool, fSl_dL, fSl_dT, fSl3_dL, fSl3_dT, fEq_int, fNe_int, fEq_dL, fNe_dL, fEq_dT, fNe_dT, items_dL, items_dT, wSl, wSl3, wNo, wPart, wSq_eq, sqK_t, sqK_al, sqO_iL, qIx_eq, qIxK, lstAt_eq, lstO_iL, DL.placeOf, T.get, core_d, re_iL, re_d, T.put, List.getElem?_cons_zero, List.getElem?_cons_succ, List.set_cons_zero, List.set_cons_succ, List.length_cons, List.length_nil, iD_len, iE_len, and_true, true_and, Bool.not_true, Bool.not_false, if_true, if_false, Bool.false_eq_true, decide_eq_true_eq, Bool.not_eq_true', decide_eq_false_iff_not, wFor, wRng1, wRng2, wRng3, wName, endsD, startG, List.map_cons, List.map_nil, List.replicate, List.cons_append, List.nil_append, look, wCall, Option.some.injEq, exists_eq_left', wPar, DL.putAt, wSetQ, wApp_eq, appO_iL, isLst_iL, wPop_eq, popO_iL, Nat.zero_le, not_true_eq_false, not_false_eq_true, wLc, wipeG, restG, toD_iLL, varK_iLL, qvO_iLL, lstO_iLL, re_iLL, lst_iLL, items_tT, items_tL, takeO_iLL, putO_iLL, sqO_iLL, keepD_iLL, wZp, keepD_none, keepD_d, keepD_iL, items_tup, items_lst, wYes, wTTup, wTCons, wTNil, List.length_map]
  refine ⟨by decide, by decide, by decide, le1000 (by omega), ?_⟩
  refine lcW_rows dT (fun _ _ => dT_inj) (fun _ => iL (List.replicate A.length 0)) A (fun r hr R R2 hR => ?_) ?_
  · simp only [E_own_poly_6, wSeq, wSet, wAsg, wExpr, wRet, wIf, wTest, wNotT, wAndT, wOrT, wIfE, w1, w2, wn, wNil, wCons, wVar, varK_iL, varK_d, wC, wLst, wTup, wQ, qVar_eq, qvO_iL, qvO_d, qC, qI, qNeg, qLen, wNext, takesOf, take_al, take_t, takeO_iL, frzsOf, frzOf, datsOf, datOf, on1, on2, put_t, put_al, putO_iL, toD_iL, toD_d, flat_iL, flat_d, lst_nil, lst_one, lst_iE, lst_iD, nil_dT, nil_dL, fList_dL, fList_dT, fTuple_dL, fTuple_dT, fLen_dL, fLen_dT, fSum_dL, fCat_dL, fCat_int, fRep_dL, fRep_int, fSub_int, fMod_int, fDiv_int, fLt_int, fLe_int, fGt_int, fGe_int, fNeg_int, fAbs_int, fMax2_int, fMin2_int, fInt_int, fInt_bool, fSl_dL, fSl_dT, fSl3_dL, fSl3_dT, fEq_int, fNe_int, fEq_dL, fNe_dL, fEq_dT, fNe_dT, items_dL, items_dT, wSl, wSl3, wNo, wPart, wSq_eq, sqK_t, sqK_al, sqO_iL, qIx_eq, qIxK, lstAt_eq, lstO_iL, DL.placeOf, T.get, core_d, re_iL, re_d, T.put, List.getElem?_cons_zero, List.getElem?_cons_succ, List.set_cons_zero, List.set_cons_succ, List.length_cons, List.length_nil, iD_len, iE_len, and_true, true_and, Bool.not_true, Bool.not_false, if_true, if_false, Bool.false_eq_true, decide_eq_true_eq, Bool.not_eq_true', decide_eq_false_iff_not, wFor, wRng1, wRng2, wRng3, wName, endsD, startG, List.map_cons, List.map_nil, List.replicate, List.cons_append, List.nil_append, look, wCall, Option.some.injEq, exists_eq_left', wPar, DL.putAt, wSetQ, wApp_eq, appO_iL, isLst_iL, wPop_eq, popO_iL, Nat.zero_le, not_true_eq_false, not_false_eq_true, wLc, wipeG, restG, toD_iLL, varK_iLL, qvO_iLL, lstO_iLL, re_iLL, lst_iLL, items_tT, items_tL, takeO_iLL, putO_iLL, sqO_iLL, keepD_iLL, wZp, keepD_none, keepD_d, keepD_iL, items_tup, items_lst, wYes, wTTup, wTCons, wTNil, Int.toNat_natCast, flat_rep]
    refine ⟨by decide, by decide, by omega, by omega, ?_, hR⟩
    have : (0 + 1) * A.length ≤ 1000 := by omega
    exact le1000 this
  · have e1 : ((A.length : Int) + 1 - 1).toNat = A.length := by omega
    rw [map_iLL]
    simp only [wSeq, wSet, wAsg, wExpr, wRet, wIf, wTest, wNotT, wAndT, wOrT, wIfE, w1, w2, wn, wNil, wCons, wVar, varK_iL, varK_d, wC, wLst, wTup, wQ, qVar_eq, qvO_iL, qvO_d, qC, qI, qNeg, qLen, wNext, takesOf, take_al, take_t, takeO_iL, frzsOf, frzOf, datsOf, datOf, on1, on2, put_t, put_al, putO_iL, toD_iL, toD_d, flat_iL, flat_d, lst_nil, lst_one, lst_iE, lst_iD, nil_dT, nil_dL, fList_dL, fList_dT, fTuple_dL, fTuple_dT, fLen_dL, fLen_dT, fSum_dL, fCat_dL, fCat_int, fRep_dL, fRep_int, fSub_int, fMod_int, fDiv_int, fLt_int, fLe_int, fGt_int, fGe_int, fNeg_int, fAbs_int, fMax2_int, fMin2_int, fInt_int, fInt_bool, fSl_dL, fSl_dT, fSl3_dL, fSl3_dT, fEq_int, fNe_int, fEq_dL, fNe_dL, fEq_dT, fNe_dT, items_dL, items_dT, wSl, wSl3, wNo, wPart, wSq_eq, sqK_t, sqK_al, sqO_iL, qIx_eq, qIxK, lstAt_eq, lstO_iL, DL.placeOf, T.get, core_d, re_iL, re_d, T.put, List.getElem?_cons_zero, List.getElem?_cons_succ, List.set_cons_zero, List.set_cons_succ, List.length_cons, List.length_nil, iD_len, iE_len, and_true, true_and, Bool.not_true, Bool.not_false, if_true, if_false, Bool.false_eq_true, decide_eq_true_eq, Bool.not_eq_true', decide_eq_false_iff_not, wFor, wRng1, wRng2, wRng3, wName, endsD, startG, List.map_cons, List.map_nil, List.replicate, List.cons_append, List.nil_append, look, wCall, Option.some.injEq, exists_eq_left', wPar, DL.putAt, wSetQ, wApp_eq, appO_iL, isLst_iL, wPop_eq, popO_iL, Nat.zero_le, not_true_eq_false, not_false_eq_true, wLc, wipeG, restG, toD_iLL, varK_iLL, qvO_iLL, lstO_iLL, re_iLL, lst_iLL, items_tT, items_tL, takeO_iLL, putO_iLL, sqO_iLL, keepD_iLL, wZp, keepD_none, keepD_d, keepD_iL, items_tup, items_lst, wYes, wTTup, wTCons, wTNil, e1]
    refine ⟨by decide, ⟨⟨by decide, by decide⟩, ⟨by omega, by omega⟩⟩, ?_⟩
    refine main _ fun o3 o5 o6 o7 => ?_
    have hfl := (flS_ok ht A.length).fl
    simp only [wSeq, wSet, wAsg, wExpr, wRet, wIf, wTest, wNotT, wAndT, wOrT, wIfE, w1, w2, wn, wNil, wCons, wVar, varK_iL, varK_d, wC, wLst, wTup, wQ, qVar_eq, qvO_iL, qvO_d, qC, qI, qNeg, qLen, wNext, takesOf, take_al, take_t, takeO_iL, frzsOf, frzOf, datsOf, datOf, on1, on2, put_t, put_al, putO_iL, toD_iL, toD_d, flat_iL, flat_d, lst_nil, lst_one, lst_iE, lst_iD, nil_dT, nil_dL, fList_dL, fList_dT, fTuple_dL, fTuple_dT, fLen_dL, fLen_dT, fSum_dL, fCat_dL, fCat_int, fRep_dL, fRep_int, fSub_int, fMod_int, fDiv_int, fLt_int, fLe_int, fGt_int, fGe_int, fNeg_int, fAbs_int, fMax2_int, fMin2_int, fInt_int, fInt_bool, fSl_dL, fSl_dT, fSl3_dL, fSl3_dT, fEq_int, fNe_int, fEq_dL, fNe_dL, fEq_dT, fNe_dT, items_dL, items_dT, wSl, wSl3, wNo, wPart, wSq_eq, sqK_t, sqK_al, sqO_iL, qIx_eq, qIxK, lstAt_eq, lstO_iL, DL.placeOf, T.get, core_d, re_iL, re_d, T.put, List.getElem?_cons_zero, List.getElem?_cons_succ, List.set_cons_zero, List.set_cons_succ, List.length_cons, List.length_nil, iD_len, iE_len, and_true, true_and, Bool.not_true, Bool.not_false, if_true, if_false, Bool.false_eq_true, decide_eq_true_eq, Bool.not_eq_true', decide_eq_false_iff_not, wFor, wRng1, wRng2, wRng3, wName, endsD, startG, List.map_cons, List.map_nil, List.replicate, List.cons_append, List.nil_append, look, wCall, Option.some.injEq, exists_eq_left', wPar, DL.putAt, wSetQ, wApp_eq, appO_iL, isLst_iL, wPop_eq, popO_iL, Nat.zero_le, not_true_eq_false, not_false_eq_true, wLc, wipeG, restG, toD_iLL, varK_iLL, qvO_iLL, lstO_iLL, re_iLL, lst_iLL, items_tT, items_tL, takeO_iLL, putO_iLL, sqO_iLL, keepD_iLL, wZp, keepD_none, keepD_d, keepD_iL, items_tup, items_lst, wYes, wTTup, wTCons, wTNil]
    exact ⟨by rw [hfl]; exact le1000 (by omega), rfl⟩
end RT
end
section
set_option autoImplicit false
namespace RT
open PySem PySem.Spec PyProof.Rows L2 DL
theorem psL_len (p : List Int) : ∀ k, (psL p k).length = k + 1
  | 0 => rfl
  | k + 1 => by
    rw [psL, List.length_append, psL_len p k]
    rfl
/-- the sums so far are small -/
def psOk (g : Nat) (f : List Int) (k : Nat) : Prop := f.length = k + 1 ∧ ∀ j, 1 ≤ j → j ≤ k → Le (2 ^ ((g + 5) * j)) (at0 f j)
theorem ps_term {g : Nat} {p f : List Int} {m i : Nat} (hp : okPoly g p) (hf : psOk g f (m - 1)) (h1 : 1 ≤ i) (hi : i ≤ p.length - 1) (him : i < m) : Le (2 ^ ((g + 5) * (m - 1) + g)) (at0 p (p.length - 1 - i) * at0 f (m - i)) := by
  have h2 := hp.2.2.1 i hi
  have h3 := hf.2 (m - i) (by omega) (by omega)
  unfold Le at *
  rw [Int.natAbs_mul]
  refine Nat.le_trans (Nat.mul_le_mul h2 h3) ?_
  rw [← Nat.pow_add]
  refine Nat.pow_le_pow_right (by decide) ?_
  obtain ⟨d, rfl⟩ : ∃ d, m = i + 1 + d := ⟨m - i - 1, by omega⟩
  obtain ⟨e, rfl⟩ : ∃ e, i = e + 1 := ⟨i - 1, by omega⟩
  rw [show e + 1 + 1 + d - (e + 1) = 1 + d by omega, show e + 1 + 1 + d - 1 = e + (1 + d) by omega]
  have a1 : g * (e + 1) = g * e + g := Nat.mul_succ ..
  have a2 : (g + 5) * (e + (1 + d)) = (g + 5) * e + (g + 5) * (1 + d) := Nat.mul_add ..
  have a3 : (g + 5) * e = g * e + 5 * e := Nat.add_mul ..
  omega
theorem psSum_le {g : Nat} {p f : List Int} {m : Nat} (hp : okPoly g p) (hf : psOk g f (m - 1)) : ∀ k, k ≤ p.length - 1 → k < m → Le (k * 2 ^ ((g + 5) * (m - 1) + g)) (psSum p f m k)
  | 0, _, _ => Nat.zero_le _
  | k + 1, h1, h2 => by
    have ih := psSum_le hp hf k (by omega) (by omega)
    have ht := ps_term hp hf (i := k + 1) (by omega) h1 h2
    unfold Le at *
    rw [psSum, Nat.succ_mul]
    have := Int.natAbs_sub_le (psSum p f m k) (at0 p (p.length - 1 - (k + 1)) * at0 f (m - (k + 1)))
    omega
theorem psNext_le {g : Nat} {p f : List Int} {m : Nat} (hp : okPoly g p) (hf : psOk g f (m - 1)) (hm1 : 1 ≤ m) (hm : m ≤ 14) : Le (2 ^ ((g + 5) * m)) (psNext p f m) := by
  obtain ⟨q1, q2, q3, q4⟩ := id hp
  have h1 := psSum_le hp hf (min m p.length - 1) (by omega) (by omega)
  have hX : 0 < 2 ^ ((g + 5) * (m - 1) + g) := Nat.pow_pos (by decide)
  have e : 2 ^ ((g + 5) * m) = 32 * 2 ^ ((g + 5) * (m - 1) + g) := by
    obtain ⟨d, rfl⟩ : ∃ d, m = d + 1 := ⟨m - 1, by omega⟩
    rw [Nat.add_sub_cancel, Nat.mul_succ, show (g + 5) * d + (g + 5) = ((g + 5) * d + g) + 5 by omega, Nat.pow_add 2 _ 5, Nat.mul_comm]
  have h2 : (if m ≤ p.length - 1 then (m : Int) * at0 p (p.length - 1 - m) else 0).natAbs ≤ 14 * 2 ^ ((g + 5) * (m - 1) + g) := by
    split
    · rename_i hle
      rw [Int.natAbs_mul]
      refine Nat.mul_le_mul (by omega) (Nat.le_trans (q3 m hle) (Nat.pow_le_pow_right (by decide) ?_))
      obtain ⟨d, rfl⟩ : ∃ d, m = d + 1 := ⟨m - 1, by omega⟩
      rw [Nat.add_sub_cancel]
      have a1 : g * (d + 1) = g * d + g := Nat.mul_succ ..
      have a3 : (g + 5) * d = g * d + 5 * d := Nat.add_mul ..
      omega
    · exact Nat.zero_le _
  have h3 : (min m p.length - 1) * 2 ^ ((g + 5) * (m - 1) + g) ≤ 13 * 2 ^ ((g + 5) * (m - 1) + g) := Nat.mul_le_mul_right _ (by omega)
  unfold psNext Le at *
  rw [e]
  have := Int.natAbs_sub_le (psSum p f m (min m p.length - 1)) (if m ≤ p.length - 1 then (m : Int) * at0 p (p.length - 1 - m) else 0)
  generalize 2 ^ ((g + 5) * (m - 1) + g) = X at *
  omega
theorem psL_ok {g : Nat} {p : List Int} (hp : okPoly g p) : ∀ k, k ≤ 14 → psOk g (psL p k) k
  | 0, _ => ⟨rfl, fun j h1 h2 => by omega⟩
  | k + 1, h => by
    have ih := psL_ok hp k (by omega)
    refine ⟨psL_len p _, fun j h1 h2 => ?_⟩
    rw [psL]
    by_cases hj : j ≤ k
    · rw [at0_app_l (by rw [ih.1]; omega)]
      exact ih.2 j h1 hj
    · have e : j = k + 1 := by omega
      subst e
      have := at0_last (xs := psL p k) (z := psNext p (psL p k) (k + 1))
      rw [ih.1] at this
      rw [this]
      exact psNext_le hp ih (by omega) h
theorem ps_inner {g : Nat} {p f : List Int} {m : Nat} {o1 : Option T} {D : DEnds} (hp : okPoly g p) (hf : psOk g f (m - 1)) (hm1 : 1 ≤ m) (hm14 : m ≤ 14) : ∀ (n i : Nat) (o6 : Option T), i + n ≤ p.length - 1 → i + n < m →
    (∀ o6, D.nx [some (.d (dT p)), o1, some (.d (.int ((p.length - 1 : Nat) : Int))), some (iL f), some (.d (.int m)), some (.d (.int (psSum p f m (i + n)))), o6]) →
    forW (wName 6) B_power_sums_1 (rangeD ((i : Int) + 1) n) D [some (.d (dT p)), o1, some (.d (.int ((p.length - 1 : Nat) : Int))), some (iL f), some (.d (.int m)), some (.d (.int (psSum p f m i))), o6]
  | 0, i, o6, _, _, h => by
    rw [rangeD_zero, forW]
    exact h o6
  | n + 1, i, o6, h1, h2, h => by
    obtain ⟨q1, q2, q3, q4⟩ := id hp
    have e1 : (((p.length - 1 : Nat) : Int) - ((i : Int) + 1)) = ((p.length - 1 - (i + 1) : Nat) : Int) := by omega
    have e2 : ((m : Int) - ((i : Int) + 1)) = ((m - (i + 1) : Nat) : Int) := by omega
    have hfl := hf.1
    rw [rangeD_succ, forW]
    generalize hR : forW (wName 6) B_power_sums_1 (rangeD ((i : Int) + 1 + 1) n) D = R0
    simp only [B_power_sums_1, wSeq, wSet, wAsg, wExpr, wRet, wIf, wTest, wNotT, wAndT, wOrT, wIfE, w1, w2, wn, wNil, wCons, wVar, varK_iL, varK_d, wC, wLst, wTup, wQ, qVar_eq, qvO_iL, qvO_d, qC, qI, qNeg, qLen, wNext, takesOf, take_al, take_t, takeO_iL, frzsOf, frzOf, datsOf, datOf, on1, on2, put_t, put_al, putO_iL, toD_iL, toD_d, flat_iL, flat_d, lst_nil, lst_one, lst_iE, lst_iD, nil_dT, nil_dL, fList_dL, fList_dT, fTuple_dL, fTuple_dT, fLen_dL, fLen_dT, fSum_dL, fCat_dL, fCat_int, fRep_dL, fRep_int, fSub_int, fMod_int, fDiv_int, fLt_int, fLe_int, fGt_int, fGe_int, fNeg_int, fAbs_int, fMax2_int, fMin2_int, fInt_int, fInt_bool, fSl_dL, fSl_dT, fSl3_dL, fSl3_dT, fEq_int, fNe_int, fEq_dL, fNe_dL, fEq_dT, fNe_dT, items_dL, items_dT, wSl, wSl3, wNo, wPart, wSq_eq, sqK_t, sqK_al, sqO_iL, qIx_eq, qIxK, lstAt_eq, lstO_iL, DL.placeOf, T.get, core_d, re_iL, re_d, T.put, List.getElem?_cons_zero, List.getElem?_cons_succ, List.set_cons_zero, List.set_cons_succ, List.length_cons, List.length_nil, iD_len, iE_len, and_true, true_and, Bool.not_true, Bool.not_false, if_true, if_false, Bool.false_eq_true, decide_eq_true_eq, Bool.not_eq_true', decide_eq_false_iff_not, wFor, wRng1, wRng2, wRng3, wName, endsD, startG, List.map_cons, List.map_nil, List.replicate, List.cons_append, List.nil_append, look, wCall, Option.some.injEq, exists_eq_left', wPar, DL.putAt, wSetQ, wApp_eq, appO_iL, isLst_iL, wPop_eq, popO_iL, Nat.zero_le, not_true_eq_false, not_false_eq_true, wLc, wipeG, restG, keepD_none, keepD_d, keepD_iL, items_tup, items_lst, wYes, wTTup, wTCons, wTNil, atI_at e1 (show p.length - 1 - (i + 1) < p.length by omega), qIxO_at e2 (show m - (i + 1) < f.length by omega)]
    have b1 : g * (i + 1) ≤ 1100 * 14 := Nat.mul_le_mul q4 (by omega)
    have b2 : (g + 5) * (m - (i + 1)) ≤ 1105 * 14 := Nat.mul_le_mul (by omega) (by omega)
    refine ⟨by decide, mulOk (Le.bd (q3 (i + 1) (by omega))) (Le.bd (hf.2 (m - (i + 1)) (by omega) (by omega))) (by omega), by decide, ?_⟩
    have e3 : ((i : Int) + 1 + 1) = ((i + 1 : Nat) : Int) + 1 := by omega
    rw [← hR, e3]
    exact ps_inner hp hf hm1 hm14 n (i + 1) _ (by omega) (by omega) (by rw [show i + 1 + n = i + (n + 1) by omega]; exact h)
theorem ps_loop {g : Nat} {p : List Int} {o1 : Option T} {D : DEnds} (hp : okPoly g p) : ∀ (n m : Nat) (o4 o5 o6 : Option T), m + n ≤ 14 →
    (∀ o4 o5 o6, D.nx [some (.d (dT p)), o1, some (.d (.int ((p.length - 1 : Nat) : Int))), some (iL (psL p (m + n))), o4, o5, o6]) →
    forW (wName 4) B_power_sums_2 (rangeD ((m : Int) + 1) n) D [some (.d (dT p)), o1, some (.d (.int ((p.length - 1 : Nat) : Int))), some (iL (psL p m)), o4, o5, o6]
  | 0, m, o4, o5, o6, _, h => by
    rw [rangeD_zero, forW]
    exact h _ _ _
  | n + 1, m, o4, o5, o6, hm, h => by
    obtain ⟨q1, q2, q3, q4⟩ := id hp
    have hf := psL_ok hp m (by omega)
    have hfl := hf.1
    have em : ((m : Int) + 1) = ((m + 1 : Nat) : Int) := by omega
    rw [rangeD_succ, forW]
    generalize hR : forW (wName 4) B_power_sums_2 (rangeD ((m : Int) + 1 + 1) n) D = R0
    have e1 : (min ((m + 1 : Nat) : Int) (((p.length - 1 : Nat) : Int) + 1) - 1).toNat = min (m + 1) p.length - 1 := by omega
    have e2 : (((p.length - 1 : Nat) : Int) - ((m + 1 : Nat) : Int)) = ((p.length - 1 : Nat) : Int) - ((m + 1 : Nat) : Int) := rfl
    rw [em]
    simp only [B_power_sums_2, wSeq, wSet, wAsg, wExpr, wRet, wIf, wTest, wNotT, wAndT, wOrT, wIfE, w1, w2, wn, wNil, wCons, wVar, varK_iL, varK_d, wC, wLst, wTup, wQ, qVar_eq, qvO_iL, qvO_d, qC, qI, qNeg, qLen, wNext, takesOf, take_al, take_t, takeO_iL, frzsOf, frzOf, datsOf, datOf, on1, on2, put_t, put_al, putO_iL, toD_iL, toD_d, flat_iL, flat_d, lst_nil, lst_one, lst_iE, lst_iD, nil_dT, nil_dL, fList_dL, fList_dT, fTuple_dL, fTuple_dT, fLen_dL, fLen_dT, fSum_dL, fCat_dL, fCat_int, fRep_dL, fRep_int, fSub_int, fMod_int, fDiv_int, fLt_int, fLe_int, fGt_int, fGe_int, fNeg_int, fAbs_int, fMax2_int, fMin2_int, fInt_int, fInt_bool, fSl_dL, fSl_dT, fSl3_dL, fSl3_dT, fEq_int, fNe_int, fEq_dL, fNe_dL, fEq_dT, fNe_dT, items_dL, items_dT, wSl, wSl3, wNo, wPart, wSq_eq, sqK_t, sqK_al, sqO_iL, qIx_eq, qIxK, lstAt_eq, lstO_iL, DL.placeOf, T.get, core_d, re_iL, re_d, T.put, List.getElem?_cons_zero, List.getElem?_cons_succ, List.set_cons_zero, List.set_cons_succ, List.length_cons, List.length_nil, iD_len, iE_len, and_true, true_and, Bool.not_true, Bool.not_false, if_true, if_false, Bool.false_eq_true, decide_eq_true_eq, Bool.not_eq_true', decide_eq_false_iff_not, wFor, wRng1, wRng2, wRng3, wName, endsD, startG, List.map_cons, List.map_nil, List.replicate, List.cons_append, List.nil_append, look, wCall, Option.some.injEq, exists_eq_left', wPar, DL.putAt, wSetQ, wApp_eq, appO_iL, isLst_iL, wPop_eq, popO_iL, Nat.zero_le, not_true_eq_false, not_false_eq_true, wLc, wipeG, restG, keepD_none, keepD_d, keepD_iL, items_tup, items_lst, wYes, wTTup, wTCons, wTNil, e1]
    refine ⟨by decide, by decide, ⟨⟨by decide, by decide⟩, ⟨by omega, by omega⟩⟩, ?_⟩
    refine ps_inner (i := 0) hp (m := m + 1) hf (by omega) (by omega) (min (m + 1) p.length - 1) _ (by omega) (by omega) fun o6 => ?_
    rw [Nat.zero_add]
    have e3 : ((m : Int) + 1 + 1) = ((m + 1 : Nat) : Int) + 1 := by omega
    have fin : ∀ o6, R0 [some (.d (dT p)), o1, some (.d (.int ((p.length - 1 : Nat) : Int))), some (iL (psL p (m + 1))), some (.d (.int ((m + 1 : Nat) : Int))), some (.d (.int (psNext p (psL p m) (m + 1)))), o6] := fun o6 => by
      rw [← hR, e3]
      exact ps_loop hp n (m + 1) _ _ _ (by omega) (by rw [show m + 1 + n = m + (n + 1) by omega]; exact h)
    by_cases hle : m + 1 ≤ p.length - 1
    · have hle' : ((m + 1 : Nat) : Int) ≤ ((p.length - 1 : Nat) : Int) := by omega
      have e4 : (((p.length - 1 : Nat) : Int) - ((m + 1 : Nat) : Int)) = ((p.length - 1 - (m + 1) : Nat) : Int) := by omega
      have b1 : g * (m + 1) ≤ 1100 * 14 := Nat.mul_le_mul q4 (by omega)
      simp only [wSeq, wSet, wAsg, wExpr, wRet, wIf, wTest, wNotT, wAndT, wOrT, wIfE, w1, w2, wn, wNil, wCons, wVar, varK_iL, varK_d, wC, wLst, wTup, wQ, qVar_eq, qvO_iL, qvO_d, qC, qI, qNeg, qLen, wNext, takesOf, take_al, take_t, takeO_iL, frzsOf, frzOf, datsOf, datOf, on1, on2, put_t, put_al, putO_iL, toD_iL, toD_d, flat_iL, flat_d, lst_nil, lst_one, lst_iE, lst_iD, nil_dT, nil_dL, fList_dL, fList_dT, fTuple_dL, fTuple_dT, fLen_dL, fLen_dT, fSum_dL, fCat_dL, fCat_int, fRep_dL, fRep_int, fSub_int, fMod_int, fDiv_int, fLt_int, fLe_int, fGt_int, fGe_int, fNeg_int, fAbs_int, fMax2_int, fMin2_int, fInt_int, fInt_bool, fSl_dL, fSl_dT, fSl3_dL, fSl3_dT, fEq_int, fNe_int, fEq_dL, fNe_dL, fEq_dT, fNe_dT, items_dL, items_dT, wSl, wSl3, wNo, wPart, wSq_eq, sqK_t, sqK_al, sqO_iL, qIx_eq, qIxK, lstAt_eq, lstO_iL, DL.placeOf, T.get, core_d, re_iL, re_d, T.put, List.getElem?_cons_zero, List.getElem?_cons_succ, List.set_cons_zero, List.set_cons_succ, List.length_cons, List.length_nil, iD_len, iE_len, and_true, true_and, Bool.not_true, Bool.not_false, if_true, if_false, Bool.false_eq_true, decide_eq_true_eq, Bool.not_eq_true', decide_eq_false_iff_not, wFor, wRng1, wRng2, wRng3, wName, endsD, startG, List.map_cons, List.map_nil, List.replicate, List.cons_append, List.nil_append, look, wCall, Option.some.injEq, exists_eq_left', wPar, DL.putAt, wSetQ, wApp_eq, appO_iL, isLst_iL, wPop_eq, popO_iL, Nat.zero_le, not_true_eq_false, not_false_eq_true, wLc, wipeG, restG, keepD_none, keepD_d, keepD_iL, items_tup, items_lst, wYes, wTTup, wTCons, wTNil, hle', atI_at e4 (show p.length - 1 - (m + 1) < p.length by omega)]
      refine ⟨mulOk (m := 64) (Bd.mono (m := 4) (show ((m + 1 : Nat) : Int).natAbs < 2 ^ 4 by omega) (by decide)) (Le.bd (q3 (m + 1) hle)) (by omega), by decide, by rw [hfl]; exact Nat.lt_of_lt_of_le (show m + 1 < 1000 by omega) (by decide), ?_⟩
      have := fin o6
      unfold psNext at this
      rw [if_pos hle] at this
      have e5 : psL p (m + 1) = psL p m ++ [psSum p (psL p m) (m + 1) (min (m + 1) p.length - 1) - ((m + 1 : Nat) : Int) * at0 p (p.length - 1 - (m + 1))] := by
        rw [psL]
        unfold psNext
        rw [if_pos hle]
      rw [e5] at this
      exact this
    · have hle' : ¬ ((m + 1 : Nat) : Int) ≤ ((p.length - 1 : Nat) : Int) := by omega
      simp only [wSeq, wSet, wAsg, wExpr, wRet, wIf, wTest, wNotT, wAndT, wOrT, wIfE, w1, w2, wn, wNil, wCons, wVar, varK_iL, varK_d, wC, wLst, wTup, wQ, qVar_eq, qvO_iL, qvO_d, qC, qI, qNeg, qLen, wNext, takesOf, take_al, take_t, takeO_iL, frzsOf, frzOf, datsOf, datOf, on1, on2, put_t, put_al, putO_iL, toD_iL, toD_d, flat_iL, flat_d, lst_nil, lst_one, lst_iE, lst_iD, nil_dT, nil_dL, fList_dL, fList_dT, fTuple_dL, fTuple_dT, fLen_dL, fLen_dT, fSum_dL, fCat_dL, fCat_int, fRep_dL, fRep_int, fSub_int, fMod_int, fDiv_int, fLt_int, fLe_int, fGt_int, fGe_int, fNeg_int, fAbs_int, fMax2_int, fMin2_int, fInt_int, fInt_bool, fSl_dL, fSl_dT, fSl3_dL, fSl3_dT, fEq_int, fNe_int, fEq_dL, fNe_dL, fEq_dT, fNe_dT, items_dL, items_dT, wSl, wSl3, wNo, wPart, wSq_eq, sqK_t, sqK_al, sqO_iL, qIx_eq, qIxK, lstAt_eq, lstO_iL, DL.placeOf, T.get, core_d, re_iL, re_d, T.put, List.getElem?_cons_zero, List.getElem?_cons_succ, List.set_cons_zero, List.set_cons_succ, List.length_cons, List.length_nil, iD_len, iE_len, and_true, true_and, Bool.not_true, Bool.not_false, if_true, if_false, Bool.false_eq_true, decide_eq_true_eq, Bool.not_eq_true', decide_eq_false_iff_not, wFor, wRng1, wRng2, wRng3, wName, endsD, startG, List.map_cons, List.map_nil, List.replicate, List.cons_append, List.nil_append, look, wCall, Option.some.injEq, exists_eq_left', wPar, DL.putAt, wSetQ, wApp_eq, appO_iL, isLst_iL, wPop_eq, popO_iL, Nat.zero_le, not_true_eq_false, not_false_eq_true, wLc, wipeG, restG, keepD_none, keepD_d, keepD_iL, items_tup, items_lst, wYes, wTTup, wTCons, wTNil, hle']
      refine ⟨by rw [hfl]; exact Nat.lt_of_lt_of_le (show m + 1 < 1000 by omega) (by decide), ?_⟩
      have := fin o6
      unfold psNext at this
      rw [if_neg hle, Int.sub_zero] at this
      have e5 : psL p (m + 1) = psL p m ++ [psSum p (psL p m) (m + 1) (min (m + 1) p.length - 1)] := by
        rw [psL]
        unfold psNext
        rw [if_neg hle, Int.sub_zero]
      rw [e5] at this
      exact this
theorem WK_power_sums : ∀ x, S_power_sums.pre x → W_power_sums (endsD (S_power_sums.post x)) (startG 7 (S_power_sums.args x)) := by
  rintro ⟨p, k⟩ ⟨⟨g, hp⟩, hk⟩
  have hk : k ≤ 14 := hk
  obtain ⟨q1, q2, q3, q4⟩ := id hp
  have q1 : 1 ≤ p.length := q1
  have e1 : ((p.length : Int) - 1) = ((p.length - 1 : Nat) : Int) := by omega
  have e2 : ((k : Int) + 1 - 1).toNat = k := by omega
  simp only [W_power_sums, S_power_sums, wSeq, wSet, wAsg, wExpr, wRet, wIf, wTest, wNotT, wAndT, wOrT, wIfE, w1, w2, wn, wNil, wCons, wVar, varK_iL, varK_d, wC, wLst, wTup, wQ, qVar_eq, qvO_iL, qvO_d, qC, qI, qNeg, qLen, wNext, takesOf, take_al, take_t, takeO_iL, frzsOf, frzOf, datsOf, datOf, on1, on2, put_t, put_al, putO_iL, toD_iL, toD_d, flat_iL, flat_d, lst_nil, lst_one, lst_iE, lst_iD, nil_dT, nil_dL, fList_dL, fList_dT, fTuple_dL, fTuple_dT, fLen_dL, fLen_dT, fSum_dL, fCat_dL, fCat_int, fRep_dL, fRep_int, fSub_int, fMod_int, fDiv_int, fLt_int, fLe_int, fGt_int, fGe_int, fNeg_int, fAbs_int, fMax2_int, fMin2_int, fInt_int, fInt_bool, fSl_dL, fSl_dT, fSl3_dL, fSl3_dT, fEq_int, fNe_int, fEq_dL, fNe_dL, fEq_dT, fNe_dT, items_dL, items_dT, wSl, wSl3, wNo, wPart, wSq_eq, sqK_t, sqK_al, sqO_iL, qIx_eq, qIxK, lstAt_eq, lstO_iL, DL.placeOf, T.get, core_d, re_iL, re_d, T.put, List.getElem?_cons_zero, List.getElem?_cons_succ, List.set_cons_zero, List.set_cons_succ, List.length_cons, List.length_nil, iD_len, iE_len, and_true, true_and, Bool.not_true, Bool.not_false, if_true, if_false, Bool.false_eq_true, decide_eq_true_eq, Bool.not_eq_true', decide_eq_false_iff_not, wFor, wRng1, wRng2, wRng3, wName, endsD, startG, List.map_cons, List.map_nil, List.replicate, List.cons_append, List.nil_append, look, wCall, Option.some.injEq, exists_eq_left', wPar, DL.putAt, wSetQ, wApp_eq, appO_iL, isLst_iL, wPop_eq, popO_iL, Nat.zero_le, not_true_eq_false, not_false_eq_true, wLc, wipeG, restG, keepD_none, keepD_d, keepD_iL, items_tup, items_lst, wYes, wTTup, wTCons, wTNil, e1, e2]
  refine ⟨by decide, by decide, by decide, ⟨⟨by decide, by decide⟩, ⟨by omega, by omega⟩⟩, ?_⟩
  refine ps_loop hp k 0 none none none (by omega) fun o4 o5 o6 => ?_
  rw [Nat.zero_add]
  simp only [wSeq, wSet, wAsg, wExpr, wRet, wIf, wTest, wNotT, wAndT, wOrT, wIfE, w1, w2, wn, wNil, wCons, wVar, varK_iL, varK_d, wC, wLst, wTup, wQ, qVar_eq, qvO_iL, qvO_d, qC, qI, qNeg, qLen, wNext, takesOf, take_al, take_t, takeO_iL, frzsOf, frzOf, datsOf, datOf, on1, on2, put_t, put_al, putO_iL, toD_iL, toD_d, flat_iL, flat_d, lst_nil, lst_one, lst_iE, lst_iD, nil_dT, nil_dL, fList_dL, fList_dT, fTuple_dL, fTuple_dT, fLen_dL, fLen_dT, fSum_dL, fCat_dL, fCat_int, fRep_dL, fRep_int, fSub_int, fMod_int, fDiv_int, fLt_int, fLe_int, fGt_int, fGe_int, fNeg_int, fAbs_int, fMax2_int, fMin2_int, fInt_int, fInt_bool, fSl_dL, fSl_dT, fSl3_dL, fSl3_dT, fEq_int, fNe_int, fEq_dL, fNe_dL, fEq_dT, fNe_dT, items_dL, items_dT, wSl, wSl3, wNo, wPart, wSq_eq, sqK_t, sqK_al, sqO_iL, qIx_eq, qIxK, lstAt_eq, lstO_iL, DL.placeOf, T.get, core_d, re_iL, re_d, T.put, List.getElem?_cons_zero, List.getElem?_cons_succ, List.set_cons_zero, List.set_cons_succ, List.length_cons, List.length_nil, iD_len, iE_len, and_true, true_and, Bool.not_true, Bool.not_false, if_true, if_false, Bool.false_eq_true, decide_eq_true_eq, Bool.not_eq_true', decide_eq_false_iff_not, wFor, wRng1, wRng2, wRng3, wName, endsD, startG, List.map_cons, List.map_nil, List.replicate, List.cons_append, List.nil_append, look, wCall, Option.some.injEq, exists_eq_left', wPar, DL.putAt, wSetQ, wApp_eq, appO_iL, isLst_iL, wPop_eq, popO_iL, Nat.zero_le, not_true_eq_false, not_false_eq_true, wLc, wipeG, restG, keepD_none, keepD_d, keepD_iL, items_tup, items_lst, wYes, wTTup, wTCons, wTNil]
end RT
end
section
set_option autoImplicit false
namespace RT
open PySem PySem.Spec PyProof.Rows L2 DL
def roomT (a b n : Nat) : Prop := (2 * ((a + 14) * n + 2 * b + 5) + n + 3) * 5 ^ (n + 1) ≤ 134217728
def S_traces : FS := ⟨List (List Int), fun A => [tT A], fun A => ∃ a, okTab a A ∧ roomT a 0 A.length, fun A r => r = .d (leastD (toldS (ownT A)) ((psL (ownT A) A.length).take ((ownT A).length - 1)))⟩
def rwS (A : List (List Int)) (b w : List Int) : Nat → List Int × List Int
  | 0 => (b, [])
  | k + 1 => (carryT A (rwS A b w k).1, (rwS A b w k).2 ++ [dotP w (rwS A b w k).1])
def S_row_of : FS := ⟨List (List Int) × List Int × List Int, fun x => [tT x.1, dT x.2.1, dT x.2.2],
  fun x => x.2.1.length = x.1.length ∧ x.2.2.length = x.1.length ∧ ∃ a b, okTab a x.1 ∧ (∀ y ∈ x.2.1, y.natAbs ≤ 2 ^ b) ∧ (∀ y ∈ x.2.2, y.natAbs ≤ 2 ^ b) ∧ b ≤ 1000 ∧ roomT a b x.1.length,
  fun x r => r = .d (leastD (toldS (ownT x.1)) ((rwS x.1 x.2.1 x.2.2 x.1.length).2.take ((ownT x.1).length - 1)))⟩
end RT
end
section
/-! printed by gen.py: what each def reads -/
namespace RT
open PySem PySem.Spec PyProof.Rows L2 DL
def E_row_of_1 : WE := (w2 (wVar 6) (wVar 7) fRep)
def B_row_of_2 : WS := (wSeq (wExpr (fun G k => isLst G[3]? ∧ wApp 3 (wn (wCons (wLc (wZp (wCons (wVar 2) (wCons (wVar 4) wNil))) (wTTup 2 (wTCons (wName 6) (wTCons (wName 7) wTNil))) wYes E_row_of_1 [6, 7]) wNil) (on1 fSum)) G k)) (wSet 4 (wCall S_carried (wCons (wVar 0) (wCons (wVar 4) wNil)))))
def W_row_of : WS := (wSeq (wSet 3 (wLst wNil)) (wSeq (wSet 4 (wn (wCons (wVar 1) wNil) (on1 fList))) (wSeq (wFor (wRng1 (wCons (wQ (qLen (qVar 0))) wNil)) (wName 5) B_row_of_2) (wRet (wCall S_by (wCons (wCall S_own_poly (wCons (wVar 0) wNil)) (wCons (wVar 3) wNil)))))))
def W_traces : WS := (wSeq (wSet 1 (wCall S_own_poly (wCons (wVar 0) wNil))) (wRet (wCall S_by (wCons (wVar 1) (wCons (wCall S_power_sums (wCons (wVar 1) (wCons (wQ (qLen (qVar 0))) wNil))) wNil)))))
end RT
end
section
set_option autoImplicit false
namespace RT
open PySem PySem.Spec PyProof.Rows L2 DL
theorem at0_rev {xs : List Int} {i : Nat} (h : i < xs.length) : at0 xs.reverse i = at0 xs (xs.length - 1 - i) := by
  unfold at0
  rw [List.getElem?_reverse h]
theorem own_lenT {a : Nat} {A : List (List Int)} (h : okTab a A) : (ownT A).length = A.length + 1 := by
  unfold ownT
  rw [List.length_reverse, (flS_ok h _).fl]
theorem own_okPoly {a : Nat} {A : List (List Int)} (h : okTab a A) : okPoly (a + 9) (ownT A) := by
  have hl := own_lenT h
  have hf := flS_ok h A.length
  have h12 := h.1
  have ha := h.2.2.2
  refine ⟨by omega, by omega, fun j hj => ?_, by omega⟩
  rw [hl] at hj ⊢
  unfold ownT
  rw [at0_rev (by rw [hf.fl]; omega), hf.fl, show A.length + 1 - 1 - (A.length + 1 - 1 - j) = j by omega]
  exact hf.fb j (by omega)
theorem bd_of_le {k B : Nat} {x : Int} (h : x.natAbs ≤ 2 ^ k) (hk : k + 1 ≤ B) : Bd B x := (Le.bd h).mono hk
theorem toldS_bd {p : List Int} {B : Nat} (h : Bds B p) : Bds B (toldS p) := by
  intro x hx
  obtain ⟨n, hn, rfl⟩ := List.mem_map.mp hx
  rw [Int.zero_sub]
  exact (h n (List.dropLast_subset _ (List.mem_reverse.mp hn))).neg
theorem own_bd {a : Nat} {A : List (List Int)} (h : okTab a A) : Bds ((a + 14) * A.length + 1) (ownT A) := by
  have hl := own_lenT h
  have hp := own_okPoly h
  refine Bds.of fun t ht => ?_
  have := hp.2.2.1 (A.length - t) (by rw [hl]; omega)
  rw [hl, show A.length + 1 - 1 - (A.length - t) = t by omega] at this
  refine bd_of_le this ?_
  have : (a + 9) * (A.length - t) ≤ (a + 14) * A.length := Nat.mul_le_mul (by omega) (by omega)
  omega
theorem toldS_len (p : List Int) : (toldS p).length = p.length - 1 := by
  unfold toldS
  rw [List.length_map, List.length_reverse, List.length_dropLast]
theorem okRow_of {a b : Nat} {A : List (List Int)} {f : List Int} (h : okTab a A) (hr : roomT a b A.length) (hf : Bds ((a + 14) * A.length + 2 * b + 5) f) (hl : A.length ≤ f.length) : okRow (toldS (ownT A)) (f.take ((ownT A).length - 1)) := by
  have hol := own_lenT h
  have e : (toldS (ownT A)).length = A.length := by rw [toldS_len, hol]; omega
  have h12 := h.1
  refine ⟨by rw [e, List.length_take, hol]; omega, by rw [e]; omega, (a + 14) * A.length + 2 * b + 5, (toldS_bd (own_bd h)).mono (by omega), hf.of_sub fun x hx => List.mem_of_mem_take hx, by rw [e]; exact hr⟩
theorem ps_bds {a : Nat} {A : List (List Int)} (h : okTab a A) (k : Nat) (hk : k ≤ 14) (hkn : k ≤ A.length) : Bds ((a + 14) * A.length + 5) (psL (ownT A) k) := by
  have hp := own_okPoly h
  have hol := own_lenT h
  have h12 := h.1
  obtain ⟨h1, h2⟩ := psL_ok hp k hk
  have h0 : ∀ k, at0 (psL (ownT A) k) 0 = (A.length : Int) := by
    intro k
    induction k with
    | zero =>
      show (((ownT A).length - 1 : Nat) : Int) = _
      rw [hol]
      rfl
    | succ k ih => rw [psL, at0_app_l (by rw [psL_len]; omega), ih]
  refine Bds.of fun t ht => ?_
  by_cases h3 : t = 0
  · subst h3
    rw [h0]
    exact Bd.mono (m := 5) (show (A.length : Int).natAbs < 2 ^ 5 by omega) (by omega)
  · refine bd_of_le (h2 t (by omega) (by omega)) ?_
    have : (a + 9 + 5) * t ≤ (a + 14) * A.length := Nat.mul_le_mul (by omega) (by omega)
    omega
theorem WK_traces : ∀ x, S_traces.pre x → W_traces (endsD (S_traces.post x)) (startG 2 (S_traces.args x)) := by
  intro (A : List (List Int)) ⟨a, ht, hr⟩
  have h12 : A.length ≤ 12 := ht.1
  have hol := own_lenT ht
  simp only [W_traces, S_traces, wSeq, wSet, wAsg, wExpr, wRet, wIf, wTest, wNotT, wAndT, wOrT, wIfE, w1, w2, wn, wNil, wCons, wVar, varK_iL, varK_d, wC, wLst, wTup, wQ, qVar_eq, qvO_iL, qvO_d, qC, qI, qNeg, qLen, wNext, takesOf, take_al, take_t, takeO_iL, frzsOf, frzOf, datsOf, datOf, on1, on2, put_t, put_al, putO_iL, toD_iL, toD_d, flat_iL, flat_d, lst_nil, lst_one, lst_iE, lst_iD, nil_dT, nil_dL, fList_dL, fList_dT, fTuple_dL, fTuple_dT, fLen_dL, fLen_dT, fSum_dL, fCat_dL, fCat_int, fRep_dL, fRep_int, fSub_int, fMod_int, fDiv_int, fLt_int, fLe_int, fGt_int, fGe_int, fNeg_int, fAbs_int, fMax2_int, fMin2_int, fInt_int, fInt_bool, fSl_dL, fSl_dT, fSl3_dL, fSl3_dT, fEq_int, fNe_int, fEq_dL, fNe_dL, fEq_dT, fNe_dT, items_dL, items_dT, wSl, wSl3, wNo, wPart, wSq_eq, sqK_t, sqK_al, sqO_iL, qIx_eq, qIxK, lstAt_eq, lstO_iL, DL.placeOf, T.get, core_d, re_iL, re_d, T.put, List.getElem?_cons_zero, List.getElem?_cons_succ, List.set_cons_zero, List.set_cons_succ, List.length_cons, List.length_nil, iD_len, iE_len, and_true, true_and, Bool.not_true, Bool.not_false, if_true, if_false, Bool.false_eq_true, decide_eq_true_eq, Bool.not_eq_true', decide_eq_false_iff_not, wFor, wRng1, wRng2, wRng3, wName, endsD, startG, List.map_cons, List.map_nil, List.replicate, List.cons_append, List.nil_append, look, wCall, Option.some.injEq, exists_eq_left', wPar, DL.putAt, wSetQ, wApp_eq, appO_iL, isLst_iL, wPop_eq, popO_iL, Nat.zero_le, not_true_eq_false, not_false_eq_true, wLc, wipeG, restG, toD_iLL, varK_iLL, qvO_iLL, lstO_iLL, re_iLL, lst_iLL, items_tT, items_tL, takeO_iLL, putO_iLL, sqO_iLL, keepD_iLL, wZp, keepD_none, keepD_d, keepD_iL, items_tup, items_lst, wYes, wTTup, wTCons, wTNil]
  refine ⟨A, rfl, ⟨a, ht⟩, fun r h => ?_⟩
  have h : r = .d (dT (ownT A)) := h
  subst h
  simp only [wSeq, wSet, wAsg, wExpr, wRet, wIf, wTest, wNotT, wAndT, wOrT, wIfE, w1, w2, wn, wNil, wCons, wVar, varK_iL, varK_d, wC, wLst, wTup, wQ, qVar_eq, qvO_iL, qvO_d, qC, qI, qNeg, qLen, wNext, takesOf, take_al, take_t, takeO_iL, frzsOf, frzOf, datsOf, datOf, on1, on2, put_t, put_al, putO_iL, toD_iL, toD_d, flat_iL, flat_d, lst_nil, lst_one, lst_iE, lst_iD, nil_dT, nil_dL, fList_dL, fList_dT, fTuple_dL, fTuple_dT, fLen_dL, fLen_dT, fSum_dL, fCat_dL, fCat_int, fRep_dL, fRep_int, fSub_int, fMod_int, fDiv_int, fLt_int, fLe_int, fGt_int, fGe_int, fNeg_int, fAbs_int, fMax2_int, fMin2_int, fInt_int, fInt_bool, fSl_dL, fSl_dT, fSl3_dL, fSl3_dT, fEq_int, fNe_int, fEq_dL, fNe_dL, fEq_dT, fNe_dT, items_dL, items_dT, wSl, wSl3, wNo, wPart, wSq_eq, sqK_t, sqK_al, sqO_iL, qIx_eq, qIxK, lstAt_eq, lstO_iL, DL.placeOf, T.get, core_d, re_iL, re_d, T.put, List.getElem?_cons_zero, List.getElem?_cons_succ, List.set_cons_zero, List.set_cons_succ, List.length_cons, List.length_nil, iD_len, iE_len, and_true, true_and, Bool.not_true, Bool.not_false, if_true, if_false, Bool.false_eq_true, decide_eq_true_eq, Bool.not_eq_true', decide_eq_false_iff_not, wFor, wRng1, wRng2, wRng3, wName, endsD, startG, List.map_cons, List.map_nil, List.replicate, List.cons_append, List.nil_append, look, wCall, Option.some.injEq, exists_eq_left', wPar, DL.putAt, wSetQ, wApp_eq, appO_iL, isLst_iL, wPop_eq, popO_iL, Nat.zero_le, not_true_eq_false, not_false_eq_true, wLc, wipeG, restG, toD_iLL, varK_iLL, qvO_iLL, lstO_iLL, re_iLL, lst_iLL, items_tT, items_tL, takeO_iLL, putO_iLL, sqO_iLL, keepD_iLL, wZp, keepD_none, keepD_d, keepD_iL, items_tup, items_lst, wYes, wTTup, wTCons, wTNil, List.length_map]
  refine ⟨by decide, (ownT A, A.length), rfl, ⟨⟨a + 9, own_okPoly ht⟩, by show A.length ≤ 14; omega⟩, fun r h => ?_⟩
  have h : r = iL (psL (ownT A) A.length) := h
  subst h
  simp only [wSeq, wSet, wAsg, wExpr, wRet, wIf, wTest, wNotT, wAndT, wOrT, wIfE, w1, w2, wn, wNil, wCons, wVar, varK_iL, varK_d, wC, wLst, wTup, wQ, qVar_eq, qvO_iL, qvO_d, qC, qI, qNeg, qLen, wNext, takesOf, take_al, take_t, takeO_iL, frzsOf, frzOf, datsOf, datOf, on1, on2, put_t, put_al, putO_iL, toD_iL, toD_d, flat_iL, flat_d, lst_nil, lst_one, lst_iE, lst_iD, nil_dT, nil_dL, fList_dL, fList_dT, fTuple_dL, fTuple_dT, fLen_dL, fLen_dT, fSum_dL, fCat_dL, fCat_int, fRep_dL, fRep_int, fSub_int, fMod_int, fDiv_int, fLt_int, fLe_int, fGt_int, fGe_int, fNeg_int, fAbs_int, fMax2_int, fMin2_int, fInt_int, fInt_bool, fSl_dL, fSl_dT, fSl3_dL, fSl3_dT, fEq_int, fNe_int, fEq_dL, fNe_dL, fEq_dT, fNe_dT, items_dL, items_dT, wSl, wSl3, wNo, wPart, wSq_eq, sqK_t, sqK_al, sqO_iL, qIx_eq, qIxK, lstAt_eq, lstO_iL, DL.placeOf, T.get, core_d, re_iL, re_d, T.put, List.getElem?_cons_zero, List.getElem?_cons_succ, List.set_cons_zero, List.set_cons_succ, List.length_cons, List.length_nil, iD_len, iE_len, and_true, true_and, Bool.not_true, Bool.not_false, if_true, if_false, Bool.false_eq_true, decide_eq_true_eq, Bool.not_eq_true', decide_eq_false_iff_not, wFor, wRng1, wRng2, wRng3, wName, endsD, startG, List.map_cons, List.map_nil, List.replicate, List.cons_append, List.nil_append, look, wCall, Option.some.injEq, exists_eq_left', wPar, DL.putAt, wSetQ, wApp_eq, appO_iL, isLst_iL, wPop_eq, popO_iL, Nat.zero_le, not_true_eq_false, not_false_eq_true, wLc, wipeG, restG, toD_iLL, varK_iLL, qvO_iLL, lstO_iLL, re_iLL, lst_iLL, items_tT, items_tL, takeO_iLL, putO_iLL, sqO_iLL, keepD_iLL, wZp, keepD_none, keepD_d, keepD_iL, items_tup, items_lst, wYes, wTTup, wTCons, wTNil]
  refine ⟨(ownT A, .l (psL (ownT A) A.length)), rfl, ⟨by show 1 ≤ (ownT A).length; omega, okRow_of ht hr (ps_bds ht _ (by omega) (Nat.le_refl _)) (by show A.length ≤ (psL (ownT A) A.length).length; rw [psL_len]; omega)⟩, fun r h => ?_⟩
  exact h
theorem rw_len (A : List (List Int)) (b w : List Int) : ∀ k, (rwS A b w k).2.length = k
  | 0 => rfl
  | k + 1 => by
    rw [rwS, List.length_append, rw_len A b w k]
    rfl
theorem rw_len1 (A : List (List Int)) (b w : List Int) (hb : b.length = A.length) : ∀ k, (rwS A b w k).1.length = A.length
  | 0 => hb
  | k + 1 => List.length_map ..
theorem rw_le {a c : Nat} {A : List (List Int)} {b w : List Int} (h : okTab a A) (hb : ∀ y ∈ b, y.natAbs ≤ 2 ^ c) (hw : ∀ y ∈ w, y.natAbs ≤ 2 ^ c) (hwl : w.length = A.length) : ∀ k, (∀ y ∈ (rwS A b w k).1, Le (2 ^ ((a + 4) * k + c)) y) ∧ ∀ j, j < k → Le (2 ^ ((a + 4) * k + 2 * c + 4)) (at0 (rwS A b w k).2 j)
  | 0 => ⟨fun y hy => by rw [Nat.mul_zero, Nat.zero_add]; exact hb y hy, fun j hj => by omega⟩
  | k + 1 => by
    obtain ⟨ih1, ih2⟩ := rw_le h hb hw hwl k
    obtain ⟨h12, hsq, hA, ha⟩ := h
    constructor
    · intro y hy
      obtain ⟨r, hr, rfl⟩ := List.mem_map.mp hy
      have := dot_le (X := 2 ^ a) (Y := 2 ^ ((a + 4) * k + c)) (hA r hr) ih1
      unfold Le at *
      refine Nat.le_trans this ?_
      rw [← Nat.pow_add]
      refine Nat.le_trans (Nat.mul_le_mul_right _ (show r.length ≤ 2 ^ 4 by rw [hsq r hr]; omega)) ?_
      rw [← Nat.pow_add]
      refine Nat.pow_le_pow_right (by decide) ?_
      rw [Nat.mul_succ]
      omega
    · intro j hj
      rw [rwS]
      by_cases hjk : j < k
      · rw [at0_app_l (by rw [rw_len]; omega)]
        refine Nat.le_trans (ih2 j hjk) (Nat.pow_le_pow_right (by decide) ?_)
        rw [Nat.mul_succ]
        omega
      · have e : j = k := by omega
        subst e
        have := at0_last (xs := (rwS A b w j).2) (z := dotP w (rwS A b w j).1)
        rw [rw_len] at this
        rw [this]
        have := dot_le (X := 2 ^ c) (Y := 2 ^ ((a + 4) * j + c)) hw ih1
        unfold Le at *
        refine Nat.le_trans this ?_
        rw [← Nat.pow_add]
        refine Nat.le_trans (Nat.mul_le_mul_right _ (show w.length ≤ 2 ^ 4 by omega)) ?_
        rw [← Nat.pow_add]
        refine Nat.pow_le_pow_right (by decide) ?_
        rw [Nat.mul_succ]
        omega
theorem rw_loop {a c : Nat} {A : List (List Int)} {b w : List Int} {D : DEnds} (h : okTab a A) (hb : ∀ y ∈ b, y.natAbs ≤ 2 ^ c) (hw : ∀ y ∈ w, y.natAbs ≤ 2 ^ c) (hwl : w.length = A.length) (hc : c ≤ 1000) : ∀ (n k : Nat) (o5 : Option T), k + n = A.length →
    (∀ o5, D.nx [some (.d (tT A)), some (.d (dT b)), some (.d (dT w)), some (iL (rwS A b w (k + n)).2), some (iL (rwS A b w (k + n)).1), o5, none, none]) →
    forW (wName 5) B_row_of_2 (rangeD (k : Int) n) D [some (.d (tT A)), some (.d (dT b)), some (.d (dT w)), some (iL (rwS A b w k).2), some (iL (rwS A b w k).1), o5, none, none]
  | 0, k, o5, _, h => by
    rw [rangeD_zero, forW]
    exact h _
  | n + 1, k, o5, hk, hD => by
    obtain ⟨h12, hsq, hA, ha⟩ := id h
    obtain ⟨g1, g2⟩ := rw_le h hb hw hwl k
    have b1 : (a + 4) * k ≤ 1004 * 12 := Nat.mul_le_mul (by omega) (by omega)
    rw [rangeD_succ, forW]
    generalize hR : forW (wName 5) B_row_of_2 (rangeD ((k : Int) + 1) n) D = R0
    simp only [B_row_of_2, wSeq, wSet, wAsg, wExpr, wRet, wIf, wTest, wNotT, wAndT, wOrT, wIfE, w1, w2, wn, wNil, wCons, wVar, varK_iL, varK_d, wC, wLst, wTup, wQ, qVar_eq, qvO_iL, qvO_d, qC, qI, qNeg, qLen, wNext, takesOf, take_al, take_t, takeO_iL, frzsOf, frzOf, datsOf, datOf, on1, on2, put_t, put_al, putO_iL, toD_iL, toD_d, flat_iL, flat_d, lst_nil, lst_one, lst_iE, lst_iD, nil_dT, nil_dL, fList_dL, fList_dT, fTuple_dL, fTuple_dT, fLen_dL, fLen_dT, fSum_dL, fCat_dL, fCat_int, fRep_dL, fRep_int, fSub_int, fMod_int, fDiv_int, fLt_int, fLe_int, fGt_int, fGe_int, fNeg_int, fAbs_int, fMax2_int, fMin2_int, fInt_int, fInt_bool, fSl_dL, fSl_dT, fSl3_dL, fSl3_dT, fEq_int, fNe_int, fEq_dL, fNe_dL, fEq_dT, fNe_dT, items_dL, items_dT, wSl, wSl3, wNo, wPart, wSq_eq, sqK_t, sqK_al, sqO_iL, qIx_eq, qIxK, lstAt_eq, lstO_iL, DL.placeOf, T.get, core_d, re_iL, re_d, T.put, List.getElem?_cons_zero, List.getElem?_cons_succ, List.set_cons_zero, List.set_cons_succ, List.length_cons, List.length_nil, iD_len, iE_len, and_true, true_and, Bool.not_true, Bool.not_false, if_true, if_false, Bool.false_eq_true, decide_eq_true_eq, Bool.not_eq_true', decide_eq_false_iff_not, wFor, wRng1, wRng2, wRng3, wName, endsD, startG, List.map_cons, List.map_nil, List.replicate, List.cons_append, List.nil_append, look, wCall, Option.some.injEq, exists_eq_left', wPar, DL.putAt, wSetQ, wApp_eq, appO_iL, isLst_iL, wPop_eq, popO_iL, Nat.zero_le, not_true_eq_false, not_false_eq_true, wLc, wipeG, restG, toD_iLL, varK_iLL, qvO_iLL, lstO_iLL, re_iLL, lst_iLL, items_tT, items_tL, takeO_iLL, putO_iLL, sqO_iLL, keepD_iLL, wZp, keepD_none, keepD_d, keepD_iL, items_tup, items_lst, wYes, wTTup, wTCons, wTNil]
    refine ⟨by decide, Nat.le_trans (zip_len _ _) (le1000 (by omega)), ?_⟩
    refine lcW_pairs (fun x y => x * y) w (rwS A b w k).1 (fun x hx y hy R R2 hR => ?_) ?_
    · simp only [E_row_of_1, wSeq, wSet, wAsg, wExpr, wRet, wIf, wTest, wNotT, wAndT, wOrT, wIfE, w1, w2, wn, wNil, wCons, wVar, varK_iL, varK_d, wC, wLst, wTup, wQ, qVar_eq, qvO_iL, qvO_d, qC, qI, qNeg, qLen, wNext, takesOf, take_al, take_t, takeO_iL, frzsOf, frzOf, datsOf, datOf, on1, on2, put_t, put_al, putO_iL, toD_iL, toD_d, flat_iL, flat_d, lst_nil, lst_one, lst_iE, lst_iD, nil_dT, nil_dL, fList_dL, fList_dT, fTuple_dL, fTuple_dT, fLen_dL, fLen_dT, fSum_dL, fCat_dL, fCat_int, fRep_dL, fRep_int, fSub_int, fMod_int, fDiv_int, fLt_int, fLe_int, fGt_int, fGe_int, fNeg_int, fAbs_int, fMax2_int, fMin2_int, fInt_int, fInt_bool, fSl_dL, fSl_dT, fSl3_dL, fSl3_dT, fEq_int, fNe_int, fEq_dL, fNe_dL, fEq_dT, fNe_dT, items_dL, items_dT, wSl, wSl3, wNo, wPart, wSq_eq, sqK_t, sqK_al, sqO_iL, qIx_eq, qIxK, lstAt_eq, lstO_iL, DL.placeOf, T.get, core_d, re_iL, re_d, T.put, List.getElem?_cons_zero, List.getElem?_cons_succ, List.set_cons_zero, List.set_cons_succ, List.length_cons, List.length_nil, iD_len, iE_len, and_true, true_and, Bool.not_true, Bool.not_false, if_true, if_false, Bool.false_eq_true, decide_eq_true_eq, Bool.not_eq_true', decide_eq_false_iff_not, wFor, wRng1, wRng2, wRng3, wName, endsD, startG, List.map_cons, List.map_nil, List.replicate, List.cons_append, List.nil_append, look, wCall, Option.some.injEq, exists_eq_left', wPar, DL.putAt, wSetQ, wApp_eq, appO_iL, isLst_iL, wPop_eq, popO_iL, Nat.zero_le, not_true_eq_false, not_false_eq_true, wLc, wipeG, restG, toD_iLL, varK_iLL, qvO_iLL, lstO_iLL, re_iLL, lst_iLL, items_tT, items_tL, takeO_iLL, putO_iLL, sqO_iLL, keepD_iLL, wZp, keepD_none, keepD_d, keepD_iL, items_tup, items_lst, wYes, wTTup, wTCons, wTNil]
      exact ⟨by decide, by decide, mulOk (Le.bd (hw x hx)) (Le.bd (g1 y hy)) (by omega), hR⟩
    · simp only [wSeq, wSet, wAsg, wExpr, wRet, wIf, wTest, wNotT, wAndT, wOrT, wIfE, w1, w2, wn, wNil, wCons, wVar, varK_iL, varK_d, wC, wLst, wTup, wQ, qVar_eq, qvO_iL, qvO_d, qC, qI, qNeg, qLen, wNext, takesOf, take_al, take_t, takeO_iL, frzsOf, frzOf, datsOf, datOf, on1, on2, put_t, put_al, putO_iL, toD_iL, toD_d, flat_iL, flat_d, lst_nil, lst_one, lst_iE, lst_iD, nil_dT, nil_dL, fList_dL, fList_dT, fTuple_dL, fTuple_dT, fLen_dL, fLen_dT, fSum_dL, fCat_dL, fCat_int, fRep_dL, fRep_int, fSub_int, fMod_int, fDiv_int, fLt_int, fLe_int, fGt_int, fGe_int, fNeg_int, fAbs_int, fMax2_int, fMin2_int, fInt_int, fInt_bool, fSl_dL, fSl_dT, fSl3_dL, fSl3_dT, fEq_int, fNe_int, fEq_dL, fNe_dL, fEq_dT, fNe_dT, items_dL, items_dT, wSl, wSl3, wNo, wPart, wSq_eq, sqK_t, sqK_al, sqO_iL, qIx_eq, qIxK, lstAt_eq, lstO_iL, DL.placeOf, T.get, core_d, re_iL, re_d, T.put, List.getElem?_cons_zero, List.getElem?_cons_succ, List.set_cons_zero, List.set_cons_succ, List.length_cons, List.length_nil, iD_len, iE_len, and_true, true_and, Bool.not_true, Bool.not_false, if_true, if_false, Bool.false_eq_true, decide_eq_true_eq, Bool.not_eq_true', decide_eq_false_iff_not, wFor, wRng1, wRng2, wRng3, wName, endsD, startG, List.map_cons, List.map_nil, List.replicate, List.cons_append, List.nil_append, look, wCall, Option.some.injEq, exists_eq_left', wPar, DL.putAt, wSetQ, wApp_eq, appO_iL, isLst_iL, wPop_eq, popO_iL, Nat.zero_le, not_true_eq_false, not_false_eq_true, wLc, wipeG, restG, toD_iLL, varK_iLL, qvO_iLL, lstO_iLL, re_iLL, lst_iLL, items_tT, items_tL, takeO_iLL, putO_iLL, sqO_iLL, keepD_iLL, wZp, keepD_none, keepD_d, keepD_iL, items_tup, items_lst, wYes, wTTup, wTCons, wTNil]
      refine ⟨by rw [rw_len]; exact Nat.lt_of_lt_of_le (show k < 1000 by omega) (by decide), ?_⟩
      refine ⟨(.t A, .l (rwS A b w k).1), rfl, ⟨by show A.length ≤ 1000; omega, fun r hr => by rw [hsq r hr]; omega, a + 1, (a + 4) * k + c + 1, fun r hr x hx => Le.bd (hA r hr x hx), fun y hy => Le.bd (g1 y hy), by omega⟩, fun r hr => ?_⟩
      have hr : r = iL (carryT A (rwS A b w k).1) := hr
      subst hr
      refine ⟨by decide, ?_⟩
      have e3 : ((k : Int) + 1) = ((k + 1 : Nat) : Int) := by omega
      rw [← hR, e3]
      exact rw_loop h hb hw hwl hc n (k + 1) _ (by omega) (by rw [show k + 1 + n = k + (n + 1) by omega]; exact hD)
theorem WK_row_of : ∀ x, S_row_of.pre x → W_row_of (endsD (S_row_of.post x)) (startG 8 (S_row_of.args x)) := by
  rintro ⟨A, b, w⟩ ⟨hbl, hwl, a, c, ht, hb, hw, hc, hr⟩
  have hwl : w.length = A.length := hwl
  have ht : okTab a A := ht
  have h12 : A.length ≤ 12 := ht.1
  have hol := own_lenT ht
  have g := (rw_le ht hb hw hwl A.length).2
  have hf : Bds ((a + 14) * A.length + 2 * c + 5) (rwS A b w A.length).2 := by
    refine Bds.of fun t hlt => bd_of_le (g t (by rw [rw_len] at hlt; exact hlt)) ?_
    have : (a + 4) * A.length ≤ (a + 14) * A.length := Nat.mul_le_mul_right _ (by omega)
    omega
  simp only [W_row_of, S_row_of, wSeq, wSet, wAsg, wExpr, wRet, wIf, wTest, wNotT, wAndT, wOrT, wIfE, w1, w2, wn, wNil, wCons, wVar, varK_iL, varK_d, wC, wLst, wTup, wQ, qVar_eq, qvO_iL, qvO_d, qC, qI, qNeg, qLen, wNext, takesOf, take_al, take_t, takeO_iL, frzsOf, frzOf, datsOf, datOf, on1, on2, put_t, put_al, putO_iL, toD_iL, toD_d, flat_iL, flat_d, lst_nil, lst_one, lst_iE, lst_iD, nil_dT, nil_dL, fList_dL, fList_dT, fTuple_dL, fTuple_dT, fLen_dL, fLen_dT, fSum_dL, fCat_dL, fCat_int, fRep_dL, fRep_int, fSub_int, fMod_int, fDiv_int, fLt_int, fLe_int, fGt_int, fGe_int, fNeg_int, fAbs_int, fMax2_int, fMin2_int, fInt_int, fInt_bool, fSl_dL, fSl_dT, fSl3_dL, fSl3_dT, fEq_int, fNe_int, fEq_dL, fNe_dL, fEq_dT, fNe_dT, items_dL, items_dT, wSl, wSl3, wNo, wPart, wSq_eq, sqK_t, sqK_al, sqO_iL, qIx_eq, qIxK, lstAt_eq, lstO_iL, DL.placeOf, T.get, core_d, re_iL, re_d, T.put, List.getElem?_cons_zero, List.getElem?_cons_succ, List.set_cons_zero, List.set_cons_succ, List.length_cons, List.length_nil, iD_len, iE_len, and_true, true_and, Bool.not_true, Bool.not_false, if_true, if_false, Bool.false_eq_true, decide_eq_true_eq, Bool.not_eq_true', decide_eq_false_iff_not, wFor, wRng1, wRng2, wRng3, wName, endsD, startG, List.map_cons, List.map_nil, List.replicate, List.cons_append, List.nil_append, look, wCall, Option.some.injEq, exists_eq_left', wPar, DL.putAt, wSetQ, wApp_eq, appO_iL, isLst_iL, wPop_eq, popO_iL, Nat.zero_le, not_true_eq_false, not_false_eq_true, wLc, wipeG, restG, toD_iLL, varK_iLL, qvO_iLL, lstO_iLL, re_iLL, lst_iLL, items_tT, items_tL, takeO_iLL, putO_iLL, sqO_iLL, keepD_iLL, wZp, keepD_none, keepD_d, keepD_iL, items_tup, items_lst, wYes, wTTup, wTCons, wTNil, List.length_map, Int.toNat_natCast]
  refine ⟨by decide, by decide, ⟨by omega, by omega⟩, ?_⟩
  refine rw_loop ht hb hw hwl hc A.length 0 none (by omega) fun o5 => ?_
  rw [Nat.zero_add]
  simp only [wSeq, wSet, wAsg, wExpr, wRet, wIf, wTest, wNotT, wAndT, wOrT, wIfE, w1, w2, wn, wNil, wCons, wVar, varK_iL, varK_d, wC, wLst, wTup, wQ, qVar_eq, qvO_iL, qvO_d, qC, qI, qNeg, qLen, wNext, takesOf, take_al, take_t, takeO_iL, frzsOf, frzOf, datsOf, datOf, on1, on2, put_t, put_al, putO_iL, toD_iL, toD_d, flat_iL, flat_d, lst_nil, lst_one, lst_iE, lst_iD, nil_dT, nil_dL, fList_dL, fList_dT, fTuple_dL, fTuple_dT, fLen_dL, fLen_dT, fSum_dL, fCat_dL, fCat_int, fRep_dL, fRep_int, fSub_int, fMod_int, fDiv_int, fLt_int, fLe_int, fGt_int, fGe_int, fNeg_int, fAbs_int, fMax2_int, fMin2_int, fInt_int, fInt_bool, fSl_dL, fSl_dT, fSl3_dL, fSl3_dT, fEq_int, fNe_int, fEq_dL, fNe_dL, fEq_dT, fNe_dT, items_dL, items_dT, wSl, wSl3, wNo, wPart, wSq_eq, sqK_t, sqK_al, sqO_iL, qIx_eq, qIxK, lstAt_eq, lstO_iL, DL.placeOf, T.get, core_d, re_iL, re_d, T.put, List.getElem?_cons_zero, List.getElem?_cons_succ, List.set_cons_zero, List.set_cons_succ, List.length_cons, List.length_nil, iD_len, iE_len, and_true, true_and, Bool.not_true, Bool.not_false, if_true, if_false, Bool.false_eq_true, decide_eq_true_eq, Bool.not_eq_true', decide_eq_false_iff_not, wFor, wRng1, wRng2, wRng3, wName, endsD, startG, List.map_cons, List.map_nil, List.replicate, List.cons_append, List.nil_append, look, wCall, Option.some.injEq, exists_eq_left', wPar, DL.putAt, wSetQ, wApp_eq, appO_iL, isLst_iL, wPop_eq, popO_iL, Nat.zero_le, not_true_eq_false, not_false_eq_true, wLc, wipeG, restG, toD_iLL, varK_iLL, qvO_iLL, lstO_iLL, re_iLL, lst_iLL, items_tT, items_tL, takeO_iLL, putO_iLL, sqO_iLL, keepD_iLL, wZp, keepD_none, keepD_d, keepD_iL, items_tup, items_lst, wYes, wTTup, wTCons, wTNil]
  refine ⟨A, rfl, ⟨a, ht⟩, fun r h => ?_⟩
  have h : r = .d (dT (ownT A)) := h
  subst h
  simp only [wSeq, wSet, wAsg, wExpr, wRet, wIf, wTest, wNotT, wAndT, wOrT, wIfE, w1, w2, wn, wNil, wCons, wVar, varK_iL, varK_d, wC, wLst, wTup, wQ, qVar_eq, qvO_iL, qvO_d, qC, qI, qNeg, qLen, wNext, takesOf, take_al, take_t, takeO_iL, frzsOf, frzOf, datsOf, datOf, on1, on2, put_t, put_al, putO_iL, toD_iL, toD_d, flat_iL, flat_d, lst_nil, lst_one, lst_iE, lst_iD, nil_dT, nil_dL, fList_dL, fList_dT, fTuple_dL, fTuple_dT, fLen_dL, fLen_dT, fSum_dL, fCat_dL, fCat_int, fRep_dL, fRep_int, fSub_int, fMod_int, fDiv_int, fLt_int, fLe_int, fGt_int, fGe_int, fNeg_int, fAbs_int, fMax2_int, fMin2_int, fInt_int, fInt_bool, fSl_dL, fSl_dT, fSl3_dL, fSl3_dT, fEq_int, fNe_int, fEq_dL, fNe_dL, fEq_dT, fNe_dT, items_dL, items_dT, wSl, wSl3, wNo, wPart, wSq_eq, sqK_t, sqK_al, sqO_iL, qIx_eq, qIxK, lstAt_eq, lstO_iL, DL.placeOf, T.get, core_d, re_iL, re_d, T.put, List.getElem?_cons_zero, List.getElem?_cons_succ, List.set_cons_zero, List.set_cons_succ, List.length_cons, List.length_nil, iD_len, iE_len, and_true, true_and, Bool.not_true, Bool.not_false, if_true, if_false, Bool.false_eq_true, decide_eq_true_eq, Bool.not_eq_true', decide_eq_false_iff_not, wFor, wRng1, wRng2, wRng3, wName, endsD, startG, List.map_cons, List.map_nil, List.replicate, List.cons_append, List.nil_append, look, wCall, Option.some.injEq, exists_eq_left', wPar, DL.putAt, wSetQ, wApp_eq, appO_iL, isLst_iL, wPop_eq, popO_iL, Nat.zero_le, not_true_eq_false, not_false_eq_true, wLc, wipeG, restG, toD_iLL, varK_iLL, qvO_iLL, lstO_iLL, re_iLL, lst_iLL, items_tT, items_tL, takeO_iLL, putO_iLL, sqO_iLL, keepD_iLL, wZp, keepD_none, keepD_d, keepD_iL, items_tup, items_lst, wYes, wTTup, wTCons, wTNil]
  refine ⟨(ownT A, .l (rwS A b w A.length).2), rfl, ⟨by show 1 ≤ (ownT A).length; omega, okRow_of ht hr hf (by show A.length ≤ (rwS A b w A.length).2.length; rw [rw_len]; omega)⟩, fun r h => ?_⟩
  exact h
end RT
end
section
set_option autoImplicit false
/-! DL19: defs that are handed a list that is known to the object (the script). -/
namespace DL
open PySem PySem.Spec PyProof.Rows L2
open Classical in
/-- a def's body, from its reading, begun with things that are only read -/
theorem body_any {body : List Stmt} {X : Cx} {t : TS} {w : WS} {post : T → Prop} {G0 : Gm} {σ0 : L2.St} {F H : Hp} {Q : VK} (h : PSsD X body t w) (fh : Same F H) (hG : ∀ (i : Nat) (t : T), G0[i]? = some (some t) → ∃ v, σ0[i]? = some (some v) ∧ TR X.K F H t v (fun _ => False)) (hlen : G0.length = σ0.length)
    (hw : w (endsD post) G0) (q : ∀ (r : T) (v : V) (H' F' : Hp) (A : ASet), post r → Same F F' → Same F' H' → Same H H' → TR X.K F' H' r v A → (∀ b, A b → H b = none ∧ F' b = none ∧ H' b ≠ none) → (∀ b o, F' b = some o → F b = some o ∨ H b = none) → Q v H') : t { nx := fun _ H' => Q .non H', rt := Q } σ0 H := by
  have e0 : EnvX X.K ⟨F, fun b => if F b = none then H b else none⟩ G0 [] σ0 [] H F (fun _ _ => False) (fun _ => False) := by
    refine ⟨Same.refl F, fh, fun b o z => ?_, fun b o z => ?_, fun _ _ _ _ z => z, fun _ _ _ z => z, hG, .nil, fun _ _ _ _ z => z.elim, fun _ _ z => z.elim, fun _ _ z => z.elim, fun _ z => z.elim, trivial, hlen⟩
    · have z : (if F b = none then H b else none) = some o := z
      split at z
      · exact z
      · cases z
    · have z : (if F b = none then H b else none) = some o := z
      split at z
      · rename_i e
        exact e
      · cases z
  have fin : ∀ (G' : Gm) (ts' : List T) (σ' : L2.St) (vs' : List V) (H' F' : Hp) (As : Nat → ASet) (B : ASet) (v : V) (A : ASet) (r : T), post r → EnvX X.K ⟨F, fun b => if F b = none then H b else none⟩ G' ts' σ' vs' H' F' As B → TR X.K F' H' r v A → (∀ b, A b → (B b ∨ ∃ i, As i b)) → Q v H' := fun G' ts' σ' vs' H' F' As B v A r hpost x ht hA => by
    have fm : ∀ b, F b = none → H b ≠ none → ∃ o, H b = some o ∧ (if F b = none then H b else none) = some o := fun b h1 h2 => by
      cases e : H b with
      | none => exact absurd e h2
      | some o => exact ⟨o, rfl, if_pos h1⟩
    refine q r v H' F' A hpost x.hb x.fh (fun b o z => ?_) ht (fun b z => ?_) fun b o z => ?_
    · cases e : F b with
      | none =>
        obtain ⟨o', e1, e2⟩ := fm b e (ne_none_of z)
        rw [z] at e1
        cases e1
        exact x.fm b o e2
      | some o' =>
        have := fh b o' e
        rw [z] at this
        cases this
        exact x.fh b o (x.hb b o e)
    · have live : F' b = none ∧ H' b ≠ none := by
        rcases hA b z with z | ⟨i, z⟩
        · exact x.fB b z
        · exact x.fA i b z
      refine ⟨?_, live⟩
      cases e : H b with
      | none => rfl
      | some o =>
        exfalso
        cases e2 : F b with
        | none =>
          obtain ⟨o', _, e4⟩ := fm b e2 (ne_none_of e)
          rcases hA b z with z | ⟨i, z⟩
          · exact x.fmB b o' e4 z
          · exact x.fmA b o' e4 i z
        | some o' =>
          have := x.hb b o' e2
          rw [live.1] at this
          cases this
    · cases e2 : F b with
      | none =>
        refine .inr ?_
        cases e : H b with
        | none => rfl
        | some o' =>
          obtain ⟨o2, _, e4⟩ := fm b e2 (ne_none_of e)
          have := x.fmF b o2 e4
          rw [z] at this
          cases this
      | some o' =>
        have := x.hb b o' e2
        rw [z] at this
        cases this
        exact .inl rfl
  refine h.rd _ _ _ _ _ _ _ _ e0.env hw (fun G' σ' H' x hn => ?_) (fun y G' v σ' H' x ho hk => ?_) (fun _ _ _ _ z => z.elim) (fun _ _ _ _ z => z.elim)
  · obtain ⟨F', As, B, x⟩ := x
    exact fin _ _ _ _ H' F' As B .non (fun _ => False) _ hn x (.d .non) fun _ z => z.elim
  · obtain ⟨F', As, B, x⟩ := x
    obtain ⟨r, hk, hp⟩ := hk
    obtain ⟨A, ht, hA⟩ := x.look ho hk
    exact fin _ _ _ _ H' F' As B v A r hp x ht hA
/-- what a def is for that is handed such a list alone -/
structure FR where
  pre : List Int → Prop
  post : List Int → T → Prop
def spR (K : PySem.W.Frag) (S : FR) : Sp := fun vs H Q _ => ∃ (F : Hp) (ns : List Int) (a : Addr), vs = [.ref a] ∧ SqL K F a (ns.map V.int) ∧ Same F H ∧ S.pre ns ∧
  ∀ (r : T) (v : V) (H' F' : Hp) (A : ASet), S.post ns r → Same F F' → Same F' H' → Same H H' → TR K F' H' r v A → (∀ b, A b → H b = none ∧ F' b = none ∧ H' b ≠ none) → (∀ b o, F' b = some o → F b = some o ∨ H b = none) → Q v H'
def startR (n : Nat) (ns : List Int) : Gm := some (.ro ns) :: List.replicate (n - 1) none
theorem spR_body {N : List Str} {body : List Stmt} {X : Cx} {t : TS} {w : WS} {S : FR} {vs : List V} {H : Hp} {Q : VK} {E : XK} (h : PSsD X body t w) (hN : 1 ≤ N.length)
    (hw : ∀ ns, S.pre ns → w (endsD (S.post ns)) (startR N.length ns)) (hs : spR X.K S vs H Q E) : t { nx := fun _ H' => Q .non H', rt := Q } (L2.start N vs) H := by
  obtain ⟨F, ns, a, rfl, hq, fh, hp, q⟩ := hs
  refine body_any h fh (fun i t z => ?_) ?_ (hw ns hp) q
  · cases i with
    | zero =>
      cases z
      exact ⟨.ref a, rfl, .ro hq⟩
    | succ i =>
      have z : (List.replicate (N.length - 1) none : Gm)[i]? = some (some t) := z
      rw [List.getElem?_replicate] at z
      split at z <;> cases z
  · unfold startR L2.start
    simp only [List.length_cons, List.length_append, List.length_map, List.length_replicate, List.length_nil]
    omega
structure DefR (P : Program) (w : World) (K : PySem.W.Frag) (mg : Str → Option Value) (base : Heap) (k : Nat) (x : Str) (S : FR) : Prop where
  ex : ∃ (f : Addr) (fd : FuncData) (p : Str), FnOk P w K mg base CX0 k f fd [p] (spR K S) ∧ mg x = some (.ref f) ∧ PySem.W.keepIn K (.ref f) = true ∧ Binds K fd [p] []
theorem fn_okR {P : Program} {w : World} {K : PySem.W.Frag} {mg : Str → Option Value} {base : Heap} {x qual : Str} {st : Stmt} {f : Addr} {fd : FuncData} {N : List Str} {p : Str} {k : Nat} {S : FR} (F : Fun K x qual st f fd) (hm : mg x = some (.ref f)) (hb : Binds K fd [p] []) (C : FnScope N [p] (defScope st))
    (seer : base.NoSeer) (tree : P.given.tree = none) (hk : 40 ≤ k) (hN : 1 ≤ N.length)
    (hbody : ∀ (cdv : Value) (A : Around) (outer : List PySem.Env) (s : Shared) (H : Hp) (E : XK), Room k (A.deeper (envOfC qual (defScope st) s.heap.objs.size f cdv)) → Big (cxOf CX0 P w K mg base N qual (defScope st) f cdv A outer s H E).nox →
      ∃ t w', PSsD (cxOf CX0 P w K mg base N qual (defScope st) f cdv A outer s H E).nox (defBody st) t w' ∧ ∀ ns, S.pre ns → w' (endsD (S.post ns)) (startR N.length ns)) : FnOk P w K mg base CX0 (k + 1) f fd [p] (spR K S) := by
  refine F.ok C (fun vs H Q E h => ?_) (fun cdv A outer s H vs Q E hr h => ?_)
  · obtain ⟨F, ns, a, rfl, _⟩ := h
    rfl
  · have big : Big (cxOf CX0 P w K mg base N qual (defScope st) f cdv A outer s H E).nox := by
      refine ⟨seer, tree, ?_, envOfC qual (defScope st) s.heap.objs.size f cdv, outer, rfl, C.gen, C.co, rfl, rfl⟩
      have := hr.dp
      show (A.deeper (envOfC qual (defScope st) s.heap.objs.size f cdv)).depth + 100 < recursionLimit
      omega
    obtain ⟨t, w', h1, h2⟩ := hbody cdv A outer s H E hr big
    exact ⟨t, h1.ps, spR_body h1 hN h2 h⟩
theorem ok_fnR {P : Program} {w : World} {K : PySem.W.Frag} {mg : Str → Option Value} {base : Heap} {x qual : Str} {st : Stmt} {f : Addr} {fd : FuncData} {N : List Str} {p : Str} {k : Nat} {S : FR} (F : Fun K x qual st f fd) (hm : mg x = some (.ref f)) (hb : Binds K fd [p] []) (C : FnScope N [p] (defScope st))
    (seer : base.NoSeer) (tree : P.given.tree = none) (hk : 40 ≤ k) (hN : 1 ≤ N.length)
    (hbody : ∀ (cdv : Value) (A : Around) (outer : List PySem.Env) (s : Shared) (H : Hp) (E : XK), Room k (A.deeper (envOfC qual (defScope st) s.heap.objs.size f cdv)) → Big (cxOf CX0 P w K mg base N qual (defScope st) f cdv A outer s H E).nox →
      ∃ t w', PSsD (cxOf CX0 P w K mg base N qual (defScope st) f cdv A outer s H E).nox (defBody st) t w' ∧ ∀ ns, S.pre ns → w' (endsD (S.post ns)) (startR N.length ns)) : DefR P w K mg base (k + 1) x S :=
  ⟨f, fd, p, fn_okR F hm hb C seer tree hk hN hbody, hm, F.kp, hb⟩
/-- its call -/
def wCallR (S : FR) (s : Nat) : WE := fun G k => match G[s]? with
  | some (some (.ro ns)) => S.pre ns ∧ ∀ r, S.post ns r → k (.t r) G
  | _ => False
theorem rd_callR {K : PySem.W.Frag} {S : FR} {s : Nat} {E : XK} : RD K (tCall (spR K S) [] E (tCons (tVar s) tNil)) (wCallR S s) := by
  intro P G ts σ vs H k Q x hw hq
  obtain ⟨F', As', B', x2⟩ := x
  unfold wCallR at hw
  split at hw
  · rename_i ns e
    obtain ⟨hr, hk⟩ := hw
    obtain ⟨v, ev, htr⟩ := x2.sl s _ e
    cases htr with
    | ro hq2 =>
      rename_i a
      refine ⟨.ref a, ev, F', ns, a, rfl, hq2, x2.fh, hr, fun r v H' F2 A hpost s1 s2 s3 ht hA hF => ?_⟩
      have keepH : ∀ b, H b ≠ none → H' b = H b := fun b z => by
        cases e : H b with
        | none => exact absurd e z
        | some o => exact s3 b o e
      have offF : ∀ b, F' b = none → H b ≠ none → F2 b = none := fun b z1 z2 => by
        cases e : F2 b with
        | none => rfl
        | some o =>
          rcases hF b o e with z | z
          · rw [z1] at z
            cases z
          · exact absurd z z2
      have nA : ∀ b, A b → H b = none := fun b z => (hA b z).1
      refine hq (.t r) G v H' ⟨F2, As', fun b => A b ∨ B' b, ?_⟩ trivial (hk r hpost)
      refine ⟨x2.hb.trans s1, s2, x2.fm.trans s3, fun b o z => offF b (x2.fmF b o z) (ne_none_of (x2.fm b o z)), x2.fmA, fun b o z w => w.elim (fun w => ?_) (x2.fmB b o z), fun i t z => ?_, ?_, x2.dj, fun i b z w => w.elim (fun w => (x2.fA i b z).2 (nA b w)) (x2.dB i b z), fun i b z => ?_, fun b z => ?_, trivial, x2.len⟩
      · have := x2.fm b o z
        rw [nA b w] at this
        cases this
      · obtain ⟨v', e1, h1⟩ := x2.sl i t z
        exact ⟨v', e1, h1.frame s1 (fun b z => keepH b (x2.fA i b z).2) fun b z => offF b (x2.fA i b z).1 (x2.fA i b z).2⟩
      · refine .cons (A1 := A) (A2 := B') ht (x2.tm.frame s1 (fun b z => keepH b (x2.fB b z).2) fun b z => offF b (x2.fB b z).1 (x2.fB b z).2) (fun b z w => (x2.fB b w).2 (nA b z)) (fun b z => .inl z) fun b z => .inr z
      · exact ⟨offF b (x2.fA i b z).1 (x2.fA i b z).2, by rw [keepH b (x2.fA i b z).2]; exact (x2.fA i b z).2⟩
      · rcases z with z | z
        · exact ⟨(hA b z).2.1, (hA b z).2.2⟩
        · exact ⟨offF b (x2.fB b z).1 (x2.fB b z).2, by rw [keepH b (x2.fB b z).2]; exact (x2.fB b z).2⟩
  · exact hw.elim
theorem pd_callR {X : Cx} {p p2 pos : Pos} (s : Nat) {k : Nat} {x y : Str} {S : FR} (D : DefR X.prog X.w X.K X.mg X.base k x S) (hr : Room k X.A) (hg : Gl X x := by rfl) (hN : X.N[s]? = some y := by rfl) (hv : Vis X.env.scope y := by first | exact Or.inl rfl | exact Or.inr (Or.inl rfl) | exact Or.inr (Or.inr rfl)) (hd : (y == ("__debug__" : Str)) = false := by decide) (hcd : (y == ("__classdict__" : Str)) = false := by decide)
    (hdb : (x == ("__debug__" : Str)) = false := by decide) (he : starEach [.Name y p2] X.env = (false, eval (.Name y p2) X.env) :: starEach [] X.env := by rfl) (hpl : (backTo pos (starEach [] X.env)).any (·.1) = false := by rfl) :
    PD X (.Call (.Name x p) [.Name y p2] [] pos) (tCall (spR X.K S) [] (fun _ _ _ => False) (tCons (tVar s) tNil)) (wCallR S s) := by
  obtain ⟨f, fd, q, F, hm, hk, hb⟩ := D.ex
  exact ⟨pe_call F hr hg hm hk hb .nil pass0 (pa_cons (pe_var hN hv hd hcd) pa_nil he) hdb he hpl, rd_callR⟩
end DL
end
section
set_option autoImplicit false
namespace RT
open PySem PySem.Spec PyProof.Rows L2 DL
def penK : List Key := [.inr "mixed", .inr "turn", .inr "wide"]
def penT (m t : Int) (w : List Int) : T := .dk penK [.d (.int m), .d (.int t), iL w]
def okPen (m t : Int) (w : List Int) : Prop := 0 ≤ m ∧ m < 2147483629 ∧ 0 ≤ t ∧ ∀ x ∈ w, 0 ≤ x
def S__law_tpen : FR := ⟨fun ns => ns.length ≤ 63, fun ns r => ∃ m w, r = penT m 0 w ∧ okPen m 0 w⟩
structure Pn where
  m : Int
  t : Int
  w : List Int
def Pn.T (p : Pn) : DL.T := penT p.m p.t p.w
def Pn.ok (p : Pn) : Prop := okPen p.m p.t p.w
def S__law_tdraw : FO := ⟨Pn × Int, fun x => x.1.T, fun x => [.int x.2], fun x => 0 < x.2 ∧ x.1.ok ∧ x.1.t ≤ 1000000000,
  fun x r t' => ∃ (n : Int) (q : Pn), r = .d (.int n) ∧ 0 ≤ n ∧ n < x.2 ∧ t' = q.T ∧ q.ok ∧ q.t ≤ x.1.t + 1⟩
end RT
end
section
/-! printed by gen.py: what each def reads -/
namespace RT
open PySem PySem.Spec PyProof.Rows L2 DL
def C__law_tpen_1 : WT := (wTest (w2 (wVar 2) (w2 (wC (.int 10)) (wC (.int 15)) fPow) fGe))
def E__law_tpen_2 : WE := (wVar 2)
def B__law_tpen_3 : WS := (wSet 1 (w2 (w2 (w2 (w2 (wVar 1) (wC (.int 48271)) fRep) (w2 (wVar 2) (wC (.int 1000000007)) fMod) fCat) (wC (.int 11)) fCat) (wC (.int 2147483629)) fMod))
def W__law_tpen : WS := (wSeq (wSet 1 (wC (.int 7))) (wSeq (wFor (wSq (wVar 0)) (wName 2) B__law_tpen_3) (wRet (wDict [.inr "mixed", .inr "turn", .inr "wide"] (wCons (wVar 1) (wCons (wC (.int 0)) (wCons (wLc (wSq (wVar 0)) (wName 2) C__law_tpen_1 E__law_tpen_2 [2]) wNil)))))))
def W__law_tdraw : WS := (wSeq (wIf (wAndT (wTest (w2 (wQ (qLen (qKey (qVar 0) (.inr "wide")))) (wC (.int 0)) fGt)) (wTest (w2 (wQ (qIx (qKey (qVar 0) (.inr "wide")) (qC (.int 0)))) (wVar 1) fLt))) (wExpr (wPopQ (qKey (qVar 0) (.inr "wide")) (qC (.int 0)))) wNext) (wSeq (wIf (wTest (w2 (wQ (qLen (qKey (qVar 0) (.inr "wide")))) (wC (.int 0)) fGt)) (wSeq (wSet 2 (w2 (wQ (qIx (qKey (qVar 0) (.inr "wide")) (qC (.int 0)))) (wVar 1) fMod)) (wSeq (wSetQ (w2 (wQ (qIx (qKey (qVar 0) (.inr "wide")) (qC (.int 0)))) (wVar 1) fDiv) (qKey (qVar 0) (.inr "wide")) (qC (.int 0))) (wRet (wVar 2)))) wNext) (wSeq (wPutQ (w2 (wQ (qKey (qVar 0) (.inr "turn"))) (wC (.int 1)) fCat) (qVar 0) (.inr "turn")) (wSeq (wSet 3 (w2 (w2 (wQ (qKey (qVar 0) (.inr "mixed"))) (w2 (w2 (wC (.int 7919)) (wQ (qKey (qVar 0) (.inr "turn"))) fRep) (wQ (qKey (qVar 0) (.inr "turn"))) fRep) fCat) (wC (.int 2147483629)) fMod)) (wSeq (wSet 4 (w2 (w2 (w2 (w2 (wVar 3) (wVar 3) fRep) (w2 (wC (.int 40692)) (wQ (qKey (qVar 0) (.inr "turn"))) fRep) fCat) (wC (.int 3)) fCat) (wC (.int 998244353)) fMod)) (wRet (w2 (w2 (w2 (w2 (w2 (wVar 4) (wVar 4) fRep) (wVar 3) fCat) (wC (.int 2147483587)) fMod) (wC (.int 16)) fDiv) (wVar 1) fMod)))))))
end RT
end
section
set_option autoImplicit false
namespace RT
open PySem PySem.Spec PyProof.Rows L2 DL
theorem ik_m0 : idxK penK (.inr "mixed" : Key) = some 0 := by decide +kernel
theorem ik_t0 : idxK penK (.inr "turn" : Key) = some 1 := by decide +kernel
theorem ik_w0 : idxK penK (.inr "wide" : Key) = some 2 := by decide +kernel
theorem ik_m (d : DecidableEq Key) : @idxK Key d penK (.inr "mixed") = some 0 := by
  have e : d = (fun a b => instDecidableEqSum a b) := Subsingleton.elim _ _
  rw [e]
  exact ik_m0
theorem ik_t (d : DecidableEq Key) : @idxK Key d penK (.inr "turn") = some 1 := by
  have e : d = (fun a b => instDecidableEqSum a b) := Subsingleton.elim _ _
  rw [e]
  exact ik_t0
theorem ik_w (d : DecidableEq Key) : @idxK Key d penK (.inr "wide") = some 2 := by
  have e : d = (fun a b => instDecidableEqSum a b) := Subsingleton.elim _ _
  rw [e]
  exact ik_w0
section
variable {a : Addr} {m t : Int} {w w' : List Int} {G : Gm}
theorem pen_dk : dkAt (some (.at a (penT m t w)) :: G) 0 [] = some (penK, [.d (.int m), .d (.int t), iL w]) := rfl
theorem pen_q : qVar 0 (some (.at a (penT m t w)) :: G) = some (.pl 0 []) := rfl
theorem pen_m : qKey (qVar 0) (.inr "mixed") (some (.at a (penT m t w)) :: G) = some (.dat (.int m)) := by
  unfold qKey
  rw [pen_q]
  simp only [pen_dk, ik_m]
  rfl
theorem pen_t : qKey (qVar 0) (.inr "turn") (some (.at a (penT m t w)) :: G) = some (.dat (.int t)) := by
  unfold qKey
  rw [pen_q]
  simp only [pen_dk, ik_t]
  rfl
theorem pen_w : qKey (qVar 0) (.inr "wide") (some (.at a (penT m t w)) :: G) = some (.pl 0 [.key (.inr "wide")]) := by
  unfold qKey
  rw [pen_q]
  simp only [pen_dk, ik_w]
  rfl
theorem pen_kid : (T.at a (penT m t w)).kid (.key (.inr "wide")) = some (2, iL w) := by
  rw [T.kid]
  unfold penT
  rw [T.kid, ik_w]
  rfl
theorem pen_get : (T.at a (penT m t w)).get [.key (.inr "wide")] = some (iL w) := by
  rw [T.get, pen_kid]
  rfl
theorem pen_lst : lstAt (some (.at a (penT m t w)) :: G) 0 [.key (.inr "wide")] = some (iE w) := by
  unfold lstAt DL.placeOf
  simp only [List.getElem?_cons_zero, pen_get]
  rfl
theorem pen_put : putAt (some (.at a (penT m t w)) :: G) 0 [.key (.inr "wide")] (iL w') = some (.at a (penT m t w')) :: G := by
  unfold DL.putAt
  simp only [List.getElem?_cons_zero, pen_get]
  rw [T.put, pen_kid]
  rfl
theorem pen_putT {t' : Int} : putAt (some (.at a (penT m t w)) :: G) 0 [] (.dk penK ([.d (.int m), .d (.int t), iL w].set 1 (.d (.int t')))) = some (.at a (penT m t' w)) :: G := rfl
end
theorem penK_nd : penK.Nodup := by decide +kernel
def TD1 : WS := (wIf (wAndT (wTest (w2 (wQ (qLen (qKey (qVar 0) (.inr "wide")))) (wC (.int 0)) fGt)) (wTest (w2 (wQ (qIx (qKey (qVar 0) (.inr "wide")) (qC (.int 0)))) (wVar 1) fLt))) (wExpr (wPopQ (qKey (qVar 0) (.inr "wide")) (qC (.int 0)))) wNext)
def TD2 : WS := (wIf (wTest (w2 (wQ (qLen (qKey (qVar 0) (.inr "wide")))) (wC (.int 0)) fGt)) (wSeq (wSet 2 (w2 (wQ (qIx (qKey (qVar 0) (.inr "wide")) (qC (.int 0)))) (wVar 1) fMod)) (wSeq (wSetQ (w2 (wQ (qIx (qKey (qVar 0) (.inr "wide")) (qC (.int 0)))) (wVar 1) fDiv) (qKey (qVar 0) (.inr "wide")) (qC (.int 0))) (wRet (wVar 2)))) wNext)
def TD3 : WS := (wSeq (wPutQ (w2 (wQ (qKey (qVar 0) (.inr "turn"))) (wC (.int 1)) fCat) (qVar 0) (.inr "turn")) (wSeq (wSet 3 (w2 (w2 (wQ (qKey (qVar 0) (.inr "mixed"))) (w2 (w2 (wC (.int 7919)) (wQ (qKey (qVar 0) (.inr "turn"))) fRep) (wQ (qKey (qVar 0) (.inr "turn"))) fRep) fCat) (wC (.int 2147483629)) fMod)) (wSeq (wSet 4 (w2 (w2 (w2 (w2 (wVar 3) (wVar 3) fRep) (w2 (wC (.int 40692)) (wQ (qKey (qVar 0) (.inr "turn"))) fRep) fCat) (wC (.int 3)) fCat) (wC (.int 998244353)) fMod)) (wRet (w2 (w2 (w2 (w2 (w2 (wVar 4) (wVar 4) fRep) (wVar 3) fCat) (wC (.int 2147483587)) fMod) (wC (.int 16)) fDiv) (wVar 1) fMod)))))
theorem td_is : W__law_tdraw = wSeq TD1 (wSeq TD2 TD3) := rfl
section
variable {a : Addr} {m t many : Int} {w : List Int}
theorem td3 (h1 : 0 < many) (p1 : 0 ≤ m) (p2 : m < 2147483629) (p3 : 0 ≤ t) (h3 : t ≤ 1000000000) (D : DEnds) (h : ∀ n : Int, 0 ≤ n → n < many → ∀ o3 o4, D.rt (.t (.d (.int n))) [some (.at a (penT m (t + 1) w)), some (.d (.int many)), none, o3, o4]) : TD3 D [some (.at a (penT m t w)), some (.d (.int many)), none, none, none] := by
  have b1 : 0 ≤ (m + 7919 * (t + 1) * (t + 1)).fmod 2147483629 := Int.fmod_nonneg_of_pos _ (by decide)
  have b2 : (m + 7919 * (t + 1) * (t + 1)).fmod 2147483629 < 2147483629 := Int.fmod_lt_of_pos _ (by decide)
  generalize eo : (m + 7919 * (t + 1) * (t + 1)).fmod 2147483629 = one at b1 b2
  have c1 : 0 ≤ (one * one + 40692 * (t + 1) + 3).fmod 998244353 := Int.fmod_nonneg_of_pos _ (by decide)
  have c2 : (one * one + 40692 * (t + 1) + 3).fmod 998244353 < 998244353 := Int.fmod_lt_of_pos _ (by decide)
  generalize et : (one * one + 40692 * (t + 1) + 3).fmod 998244353 = two at c1 c2
  have d1 := Int.fmod_nonneg_of_pos (((two * two + one).fmod 2147483587).fdiv 16) h1
  have d2 := Int.fmod_lt_of_pos (((two * two + one).fmod 2147483587).fdiv 16) h1
  have f1 : Bd 14 (7919 : Int) := (by decide : (7919 : Nat) < 2 ^ 14)
  have f2 : Bd 31 (t + 1) := by unfold Bd; omega
  have f3 : Bd 31 one := by unfold Bd; omega
  have f4 : Bd 31 two := by unfold Bd; omega
  have f5 : Bd 16 (40692 : Int) := (by decide : (40692 : Nat) < 2 ^ 16)
  simp only [TD3, wPutQ, pen_q, pen_t, pen_dk, pen_m, ik_t, wSeq, wSet, wAsg, wExpr, wRet, wIf, wTest, wNotT, wAndT, wOrT, wIfE, w1, w2, wn, wNil, wCons, wVar, varK_iL, varK_d, wC, wLst, wTup, wQ, qVar_eq, qvO_iL, qvO_d, qC, qI, qNeg, qLen, wNext, takesOf, take_al, take_t, takeO_iL, frzsOf, frzOf, datsOf, datOf, on1, on2, put_t, put_al, putO_iL, toD_iL, toD_d, flat_iL, flat_d, lst_nil, lst_one, lst_iE, lst_iD, nil_dT, nil_dL, fList_dL, fList_dT, fTuple_dL, fTuple_dT, fLen_dL, fLen_dT, fSum_dL, fCat_dL, fCat_int, fRep_dL, fRep_int, fSub_int, fMod_int, fDiv_int, fLt_int, fLe_int, fGt_int, fGe_int, fNeg_int, fAbs_int, fMax2_int, fMin2_int, fInt_int, fInt_bool, fSl_dL, fSl_dT, fSl3_dL, fSl3_dT, fEq_int, fNe_int, fEq_dL, fNe_dL, fEq_dT, fNe_dT, items_dL, items_dT, wSl, wSl3, wNo, wPart, wSq_eq, sqK_t, sqK_al, sqO_iL, qIx_eq, qIxK, T.get, core_d, re_iL, re_d, T.put, List.getElem?_cons_zero, List.getElem?_cons_succ, List.set_cons_zero, List.set_cons_succ, List.length_cons, List.length_nil, iD_len, iE_len, and_true, true_and, Bool.not_true, Bool.not_false, if_true, if_false, Bool.false_eq_true, decide_eq_true_eq, Bool.not_eq_true', decide_eq_false_iff_not, wFor, wRng1, wRng2, wRng3, wName, endsD, startG, List.map_cons, List.map_nil, List.replicate, List.cons_append, List.nil_append, look, wCall, Option.some.injEq, exists_eq_left', wPar, wSetQ, wApp_eq, appO_iL, isLst_iL, wPop_eq, popO_iL, Nat.zero_le, not_true_eq_false, not_false_eq_true, wLc, wipeG, restG, keepD_none, keepD_d, keepD_iL, items_tup, items_lst, wYes, wTTup, wTCons, wTNil]
  refine ⟨penK_nd, by decide, ?_⟩
  rw [ik_t]
  simp only
  rw [pen_putT]
  simp only [pen_m, pen_t, wSeq, wSet, wAsg, wExpr, wRet, wIf, wTest, wNotT, wAndT, wOrT, wIfE, w1, w2, wn, wNil, wCons, wVar, varK_iL, varK_d, wC, wLst, wTup, wQ, qVar_eq, qvO_iL, qvO_d, qC, qI, qNeg, qLen, wNext, takesOf, take_al, take_t, takeO_iL, frzsOf, frzOf, datsOf, datOf, on1, on2, put_t, put_al, putO_iL, toD_iL, toD_d, flat_iL, flat_d, lst_nil, lst_one, lst_iE, lst_iD, nil_dT, nil_dL, fList_dL, fList_dT, fTuple_dL, fTuple_dT, fLen_dL, fLen_dT, fSum_dL, fCat_dL, fCat_int, fRep_dL, fRep_int, fSub_int, fMod_int, fDiv_int, fLt_int, fLe_int, fGt_int, fGe_int, fNeg_int, fAbs_int, fMax2_int, fMin2_int, fInt_int, fInt_bool, fSl_dL, fSl_dT, fSl3_dL, fSl3_dT, fEq_int, fNe_int, fEq_dL, fNe_dL, fEq_dT, fNe_dT, items_dL, items_dT, wSl, wSl3, wNo, wPart, wSq_eq, sqK_t, sqK_al, sqO_iL, qIx_eq, qIxK, T.get, core_d, re_iL, re_d, T.put, List.getElem?_cons_zero, List.getElem?_cons_succ, List.set_cons_zero, List.set_cons_succ, List.length_cons, List.length_nil, iD_len, iE_len, and_true, true_and, Bool.not_true, Bool.not_false, if_true, if_false, Bool.false_eq_true, decide_eq_true_eq, Bool.not_eq_true', decide_eq_false_iff_not, wFor, wRng1, wRng2, wRng3, wName, endsD, startG, List.map_cons, List.map_nil, List.replicate, List.cons_append, List.nil_append, look, wCall, Option.some.injEq, exists_eq_left', wPar, wSetQ, wApp_eq, appO_iL, isLst_iL, wPop_eq, popO_iL, Nat.zero_le, not_true_eq_false, not_false_eq_true, wLc, wipeG, restG, keepD_none, keepD_d, keepD_iL, items_tup, items_lst, wYes, wTTup, wTCons, wTNil, eo, et]
  refine ⟨mulOk f1 f2 (by decide), mulOk (f1.mul f2) f2 (by decide), by decide, by decide, mulOk f3 f3 (by decide), mulOk f5 f2 (by decide), by decide, by decide, mulOk f4 f4 (by decide), by decide, by decide, by omega, ?_⟩
  exact h _ d1 d2 _ _
theorem td2_nil (D : DEnds) (h : D.nx [some (.at a (penT m t [])), some (.d (.int many)), none, none, none]) : TD2 D [some (.at a (penT m t [])), some (.d (.int many)), none, none, none] := by
  simp only [TD2, pen_w, pen_lst, wSeq, wSet, wAsg, wExpr, wRet, wIf, wTest, wNotT, wAndT, wOrT, wIfE, w1, w2, wn, wNil, wCons, wVar, varK_iL, varK_d, wC, wLst, wTup, wQ, qVar_eq, qvO_iL, qvO_d, qC, qI, qNeg, qLen, wNext, takesOf, take_al, take_t, takeO_iL, frzsOf, frzOf, datsOf, datOf, on1, on2, put_t, put_al, putO_iL, toD_iL, toD_d, flat_iL, flat_d, lst_nil, lst_one, lst_iE, lst_iD, nil_dT, nil_dL, fList_dL, fList_dT, fTuple_dL, fTuple_dT, fLen_dL, fLen_dT, fSum_dL, fCat_dL, fCat_int, fRep_dL, fRep_int, fSub_int, fMod_int, fDiv_int, fLt_int, fLe_int, fGt_int, fGe_int, fNeg_int, fAbs_int, fMax2_int, fMin2_int, fInt_int, fInt_bool, fSl_dL, fSl_dT, fSl3_dL, fSl3_dT, fEq_int, fNe_int, fEq_dL, fNe_dL, fEq_dT, fNe_dT, items_dL, items_dT, wSl, wSl3, wNo, wPart, wSq_eq, sqK_t, sqK_al, sqO_iL, qIx_eq, qIxK, T.get, core_d, re_iL, re_d, T.put, List.getElem?_cons_zero, List.getElem?_cons_succ, List.set_cons_zero, List.set_cons_succ, List.length_cons, List.length_nil, iD_len, iE_len, and_true, true_and, Bool.not_true, Bool.not_false, if_true, if_false, Bool.false_eq_true, decide_eq_true_eq, Bool.not_eq_true', decide_eq_false_iff_not, wFor, wRng1, wRng2, wRng3, wName, endsD, startG, List.map_cons, List.map_nil, List.replicate, List.cons_append, List.nil_append, look, wCall, Option.some.injEq, exists_eq_left', wPar, wSetQ, wApp_eq, appO_iL, isLst_iL, wPop_eq, popO_iL, Nat.zero_le, not_true_eq_false, not_false_eq_true, wLc, wipeG, restG, keepD_none, keepD_d, keepD_iL, items_tup, items_lst, wYes, wTTup, wTCons, wTNil, Int.ofNat_zero, Int.lt_irrefl, decide_false]
  exact h
theorem td2_cons (h1 : 0 < many) {x : Int} (D : DEnds) (h : ∀ n : Int, 0 ≤ n → n < many → D.rt (.t (.d (.int n))) [some (.at a (penT m t (x.fdiv many :: w))), some (.d (.int many)), some (.d (.int n)), none, none]) : TD2 D [some (.at a (penT m t (x :: w))), some (.d (.int many)), none, none, none] := by
  have e0 : (0 : Int) = ((0 : Nat) : Int) := rfl
  have hl : (0 : Nat) < (x :: w).length := by rw [List.length_cons]; omega
  have hl2 : (0 : Int) < ((w.length + 1 : Nat) : Int) := by omega
  have d1 := Int.fmod_nonneg_of_pos x h1
  have d2 := Int.fmod_lt_of_pos x h1
  have hix : ixN (w.length + 1) (0 : Int) = some 0 := ixN_of e0 hl
  simp only [TD2, pen_w, pen_lst, qIxO_at e0 hl, iE_set, pen_put, wSeq, wSet, wAsg, wExpr, wRet, wIf, wTest, wNotT, wAndT, wOrT, wIfE, w1, w2, wn, wNil, wCons, wVar, varK_iL, varK_d, wC, wLst, wTup, wQ, qVar_eq, qvO_iL, qvO_d, qC, qI, qNeg, qLen, wNext, takesOf, take_al, take_t, takeO_iL, frzsOf, frzOf, datsOf, datOf, on1, on2, put_t, put_al, putO_iL, toD_iL, toD_d, flat_iL, flat_d, lst_nil, lst_one, lst_iE, lst_iD, nil_dT, nil_dL, fList_dL, fList_dT, fTuple_dL, fTuple_dT, fLen_dL, fLen_dT, fSum_dL, fCat_dL, fCat_int, fRep_dL, fRep_int, fSub_int, fMod_int, fDiv_int, fLt_int, fLe_int, fGt_int, fGe_int, fNeg_int, fAbs_int, fMax2_int, fMin2_int, fInt_int, fInt_bool, fSl_dL, fSl_dT, fSl3_dL, fSl3_dT, fEq_int, fNe_int, fEq_dL, fNe_dL, fEq_dT, fNe_dT, items_dL, items_dT, wSl, wSl3, wNo, wPart, wSq_eq, sqK_t, sqK_al, sqO_iL, qIx_eq, qIxK, T.get, core_d, re_iL, re_d, T.put, List.getElem?_cons_zero, List.getElem?_cons_succ, List.set_cons_zero, List.set_cons_succ, List.length_cons, List.length_nil, iD_len, iE_len, and_true, true_and, Bool.not_true, Bool.not_false, if_true, if_false, Bool.false_eq_true, decide_eq_true_eq, Bool.not_eq_true', decide_eq_false_iff_not, wFor, wRng1, wRng2, wRng3, wName, endsD, startG, List.map_cons, List.map_nil, List.replicate, List.cons_append, List.nil_append, look, wCall, Option.some.injEq, exists_eq_left', wPar, wSetQ, wApp_eq, appO_iL, isLst_iL, wPop_eq, popO_iL, Nat.zero_le, not_true_eq_false, not_false_eq_true, wLc, wipeG, restG, keepD_none, keepD_d, keepD_iL, items_tup, items_lst, wYes, wTTup, wTCons, wTNil, hl2, at0_zero, hix]
  refine ⟨by omega, by decide, by omega, ?_⟩
  exact h _ d1 d2
theorem td1 (h1 : 0 < many) (D : DEnds) (hw : ∀ x ∈ w, 0 ≤ x) (h : ∀ w', (∀ x ∈ w', 0 ≤ x) → D.nx [some (.at a (penT m t w')), some (.d (.int many)), none, none, none]) : TD1 D [some (.at a (penT m t w)), some (.d (.int many)), none, none, none] := by
  cases w with
  | nil =>
    simp only [TD1, pen_w, pen_lst, wSeq, wSet, wAsg, wExpr, wRet, wIf, wTest, wNotT, wAndT, wOrT, wIfE, w1, w2, wn, wNil, wCons, wVar, varK_iL, varK_d, wC, wLst, wTup, wQ, qVar_eq, qvO_iL, qvO_d, qC, qI, qNeg, qLen, wNext, takesOf, take_al, take_t, takeO_iL, frzsOf, frzOf, datsOf, datOf, on1, on2, put_t, put_al, putO_iL, toD_iL, toD_d, flat_iL, flat_d, lst_nil, lst_one, lst_iE, lst_iD, nil_dT, nil_dL, fList_dL, fList_dT, fTuple_dL, fTuple_dT, fLen_dL, fLen_dT, fSum_dL, fCat_dL, fCat_int, fRep_dL, fRep_int, fSub_int, fMod_int, fDiv_int, fLt_int, fLe_int, fGt_int, fGe_int, fNeg_int, fAbs_int, fMax2_int, fMin2_int, fInt_int, fInt_bool, fSl_dL, fSl_dT, fSl3_dL, fSl3_dT, fEq_int, fNe_int, fEq_dL, fNe_dL, fEq_dT, fNe_dT, items_dL, items_dT, wSl, wSl3, wNo, wPart, wSq_eq, sqK_t, sqK_al, sqO_iL, qIx_eq, qIxK, T.get, core_d, re_iL, re_d, T.put, List.getElem?_cons_zero, List.getElem?_cons_succ, List.set_cons_zero, List.set_cons_succ, List.length_cons, List.length_nil, iD_len, iE_len, and_true, true_and, Bool.not_true, Bool.not_false, if_true, if_false, Bool.false_eq_true, decide_eq_true_eq, Bool.not_eq_true', decide_eq_false_iff_not, wFor, wRng1, wRng2, wRng3, wName, endsD, startG, List.map_cons, List.map_nil, List.replicate, List.cons_append, List.nil_append, look, wCall, Option.some.injEq, exists_eq_left', wPar, wSetQ, wApp_eq, appO_iL, isLst_iL, wPop_eq, popO_iL, Nat.zero_le, not_true_eq_false, not_false_eq_true, wLc, wipeG, restG, keepD_none, keepD_d, keepD_iL, items_tup, items_lst, wYes, wTTup, wTCons, wTNil, Int.ofNat_zero, Int.lt_irrefl, decide_false]
    exact h [] hw
  | cons x w =>
    have e0 : (0 : Int) = ((0 : Nat) : Int) := rfl
    have hl : (0 : Nat) < (x :: w).length := by rw [List.length_cons]; omega
    have hl2 : (0 : Int) < ((w.length + 1 : Nat) : Int) := by omega
    have hi := iE_get (xs := x :: w) (j := 0) (v := x) rfl
    by_cases hx : x < many
    · have hix : ixN (w.length + 1) (0 : Int) = some 0 := ixN_of e0 hl
      simp only [TD1, wPopQ, pen_w, pen_lst, qIxO_at e0 hl, iE_erase, hi, pen_put, wSeq, wSet, wAsg, wExpr, wRet, wIf, wTest, wNotT, wAndT, wOrT, wIfE, w1, w2, wn, wNil, wCons, wVar, varK_iL, varK_d, wC, wLst, wTup, wQ, qVar_eq, qvO_iL, qvO_d, qC, qI, qNeg, qLen, wNext, takesOf, take_al, take_t, takeO_iL, frzsOf, frzOf, datsOf, datOf, on1, on2, put_t, put_al, putO_iL, toD_iL, toD_d, flat_iL, flat_d, lst_nil, lst_one, lst_iE, lst_iD, nil_dT, nil_dL, fList_dL, fList_dT, fTuple_dL, fTuple_dT, fLen_dL, fLen_dT, fSum_dL, fCat_dL, fCat_int, fRep_dL, fRep_int, fSub_int, fMod_int, fDiv_int, fLt_int, fLe_int, fGt_int, fGe_int, fNeg_int, fAbs_int, fMax2_int, fMin2_int, fInt_int, fInt_bool, fSl_dL, fSl_dT, fSl3_dL, fSl3_dT, fEq_int, fNe_int, fEq_dL, fNe_dL, fEq_dT, fNe_dT, items_dL, items_dT, wSl, wSl3, wNo, wPart, wSq_eq, sqK_t, sqK_al, sqO_iL, qIx_eq, qIxK, T.get, core_d, re_iL, re_d, T.put, List.getElem?_cons_zero, List.getElem?_cons_succ, List.set_cons_zero, List.set_cons_succ, List.length_cons, List.length_nil, iD_len, iE_len, and_true, true_and, Bool.not_true, Bool.not_false, if_true, if_false, Bool.false_eq_true, decide_eq_true_eq, Bool.not_eq_true', decide_eq_false_iff_not, wFor, wRng1, wRng2, wRng3, wName, endsD, startG, List.map_cons, List.map_nil, List.replicate, List.cons_append, List.nil_append, look, wCall, Option.some.injEq, exists_eq_left', wPar, wSetQ, wApp_eq, appO_iL, isLst_iL, wPop_eq, popO_iL, Nat.zero_le, not_true_eq_false, not_false_eq_true, wLc, wipeG, restG, keepD_none, keepD_d, keepD_iL, items_tup, items_lst, wYes, wTTup, wTCons, wTNil, hl2, at0_zero, hx, hix]
      exact ⟨⟨by decide, by decide⟩, h w fun y hy => hw y (List.mem_cons_of_mem _ hy)⟩
    · simp only [TD1, pen_w, pen_lst, qIxO_at e0 hl, wSeq, wSet, wAsg, wExpr, wRet, wIf, wTest, wNotT, wAndT, wOrT, wIfE, w1, w2, wn, wNil, wCons, wVar, varK_iL, varK_d, wC, wLst, wTup, wQ, qVar_eq, qvO_iL, qvO_d, qC, qI, qNeg, qLen, wNext, takesOf, take_al, take_t, takeO_iL, frzsOf, frzOf, datsOf, datOf, on1, on2, put_t, put_al, putO_iL, toD_iL, toD_d, flat_iL, flat_d, lst_nil, lst_one, lst_iE, lst_iD, nil_dT, nil_dL, fList_dL, fList_dT, fTuple_dL, fTuple_dT, fLen_dL, fLen_dT, fSum_dL, fCat_dL, fCat_int, fRep_dL, fRep_int, fSub_int, fMod_int, fDiv_int, fLt_int, fLe_int, fGt_int, fGe_int, fNeg_int, fAbs_int, fMax2_int, fMin2_int, fInt_int, fInt_bool, fSl_dL, fSl_dT, fSl3_dL, fSl3_dT, fEq_int, fNe_int, fEq_dL, fNe_dL, fEq_dT, fNe_dT, items_dL, items_dT, wSl, wSl3, wNo, wPart, wSq_eq, sqK_t, sqK_al, sqO_iL, qIx_eq, qIxK, T.get, core_d, re_iL, re_d, T.put, List.getElem?_cons_zero, List.getElem?_cons_succ, List.set_cons_zero, List.set_cons_succ, List.length_cons, List.length_nil, iD_len, iE_len, and_true, true_and, Bool.not_true, Bool.not_false, if_true, if_false, Bool.false_eq_true, decide_eq_true_eq, Bool.not_eq_true', decide_eq_false_iff_not, wFor, wRng1, wRng2, wRng3, wName, endsD, startG, List.map_cons, List.map_nil, List.replicate, List.cons_append, List.nil_append, look, wCall, Option.some.injEq, exists_eq_left', wPar, wSetQ, wApp_eq, appO_iL, isLst_iL, wPop_eq, popO_iL, Nat.zero_le, not_true_eq_false, not_false_eq_true, wLc, wipeG, restG, keepD_none, keepD_d, keepD_iL, items_tup, items_lst, wYes, wTTup, wTCons, wTNil, hl2, at0_zero, hx]
      exact h _ hw
end
theorem WK__law_tdraw : ∀ x a, S__law_tdraw.pre x → W__law_tdraw (endsO a (S__law_tdraw.post x)) (startO 5 a (S__law_tdraw.own x) (S__law_tdraw.args x)) := by
  rintro ⟨⟨m, t, w⟩, many⟩ a ⟨h1, ⟨p1, p2, p3, p4⟩, h3⟩
  have h1 : 0 < many := h1
  have p1 : 0 ≤ m := p1
  have p2 : m < 2147483629 := p2
  have p3 : 0 ≤ t := p3
  have p4 : ∀ x ∈ w, 0 ≤ x := p4
  have h3 : t ≤ 1000000000 := h3
  rw [td_is]
  show (wSeq TD1 (wSeq TD2 TD3)) (endsO a (S__law_tdraw.post (⟨m, t, w⟩, many))) [some (.at a (penT m t w)), some (.d (.int many)), none, none, none]
  rw [wSeq]
  refine td1 h1 _ p4 fun w' hw' => ?_
  dsimp only
  rw [wSeq]
  cases w' with
  | nil =>
    refine td2_nil _ ?_
    refine td3 h1 p1 p2 p3 h3 _ fun n n1 n2 o3 o4 => ?_
    exact ⟨_, _, rfl, rfl, n, ⟨m, t + 1, []⟩, rfl, n1, n2, rfl, ⟨p1, p2, by show 0 ≤ t + 1; omega, hw'⟩, Int.le_refl _⟩
  | cons x xs =>
    refine td2_cons h1 _ fun n n1 n2 => ?_
    refine ⟨_, _, rfl, rfl, n, ⟨m, t, x.fdiv many :: xs⟩, rfl, n1, n2, rfl, ⟨p1, p2, p3, fun y hy => ?_⟩, by show t ≤ t + 1; omega⟩
    rcases List.mem_cons.mp hy with e | hy
    · rw [e]
      exact Int.fdiv_nonneg (hw' x List.mem_cons_self) (by omega)
    · exact hw' y (List.mem_cons_of_mem _ hy)
end RT
end
section
set_option autoImplicit false
namespace RT
open PySem PySem.Spec PyProof.Rows L2 DL
theorem varK_ro {i : Nat} {ns : List Int} {k : DL.Tm → Prop} : varK i k (some (some (.ro ns))) = k (.al i) := rfl
theorem sqO_ro {i : Nat} {ns : List Int} {G : Gm} {k : List PyData → Gm → Prop} : sqO i G k (some (some (.ro ns))) = k (iD ns) G := rfl
theorem lcW_filter {g : WG} {tt : WT} {te : WE} {own : List Nat} {G : Gm} {k : List T → Gm → Prop} (c : Int → Bool) : ∀ (xs : List Int) (acc : List Int),
    (∀ n ∈ xs, ∀ (R : T → Gm → Prop) (R2 : Gm → Prop), (c n = true → R (.d (.int n)) G) → (c n = false → R2 G) → g (.int n) G fun G2 => tt G2 fun b G3 => if b = true then te G3 fun y G4 => match takeOf G4 y with
      | some (ty, G5) => R ty (wipeG G5 own)
      | none => False else R2 (wipeG G3 own)) → k (iE (acc ++ xs.filter c)) G → lcW g tt te own (iD xs) (iE acc) G k
  | [], acc, _, hk => by
    rw [List.filter_nil, List.append_nil] at hk
    exact hk
  | x :: xs, acc, h, hk => by
    show lcW g tt te own (.int x :: iD xs) (iE acc) G k
    rw [lcW]
    refine h x List.mem_cons_self (fun ty G' => lcW g tt te own (iD xs) (iE acc ++ [ty]) G' k) (fun G' => lcW g tt te own (iD xs) (iE acc) G' k) (fun hc => ?_) (fun hc => ?_)
    · rw [iE_app]
      refine lcW_filter c xs (acc ++ [x]) (fun n hn => h n (List.mem_cons_of_mem _ hn)) ?_
      rw [List.filter_cons_of_pos hc] at hk
      rw [List.append_assoc]
      exact hk
    · refine lcW_filter c xs acc (fun n hn => h n (List.mem_cons_of_mem _ hn)) ?_
      rw [List.filter_cons_of_neg (by rw [hc]; decide)] at hk
      exact hk
theorem cpow15 : CPow 10 15 := ⟨by decide, by decide, by decide⟩
def mixF (m x : Int) : Int := (m * 48271 + x.fmod 1000000007 + 11).fmod 2147483629
theorem mix_loop {ns : List Int} {D : DEnds} : ∀ (xs : List Int) (m : Int) (o : Option T), 0 ≤ m → m < 2147483629 → (∀ m o, 0 ≤ m → m < 2147483629 → D.nx [some (.ro ns), some (.d (.int m)), o]) →
    forW (wName 2) B__law_tpen_3 (iD xs) D [some (.ro ns), some (.d (.int m)), o]
  | [], m, o, h1, h2, h => h m o h1 h2
  | x :: xs, m, o, h1, h2, h => by
    show forW (wName 2) B__law_tpen_3 (.int x :: iD xs) D _
    rw [forW]
    generalize hR : forW (wName 2) B__law_tpen_3 (iD xs) D = R0
    simp only [B__law_tpen_3, wSeq, wSet, wAsg, wExpr, wRet, wIf, wTest, wNotT, wAndT, wOrT, wIfE, w1, w2, wn, wNil, wCons, wVar, varK_iL, varK_d, wC, wLst, wTup, wQ, qVar_eq, qvO_iL, qvO_d, qC, qI, qNeg, qLen, wNext, takesOf, take_al, take_t, takeO_iL, frzsOf, frzOf, datsOf, datOf, on1, on2, put_t, put_al, putO_iL, toD_iL, toD_d, flat_iL, flat_d, lst_nil, lst_one, lst_iE, lst_iD, nil_dT, nil_dL, fList_dL, fList_dT, fTuple_dL, fTuple_dT, fLen_dL, fLen_dT, fSum_dL, fCat_dL, fCat_int, fRep_dL, fRep_int, fSub_int, fMod_int, fDiv_int, fLt_int, fLe_int, fGt_int, fGe_int, fNeg_int, fAbs_int, fMax2_int, fMin2_int, fInt_int, fInt_bool, fSl_dL, fSl_dT, fSl3_dL, fSl3_dT, fEq_int, fNe_int, fEq_dL, fNe_dL, fEq_dT, fNe_dT, items_dL, items_dT, wSl, wSl3, wNo, wPart, wSq_eq, sqK_t, sqK_al, sqO_iL, qIx_eq, qIxK, lstAt_eq, lstO_iL, DL.placeOf, T.get, core_d, re_iL, re_d, T.put, List.getElem?_cons_zero, List.getElem?_cons_succ, List.set_cons_zero, List.set_cons_succ, List.length_cons, List.length_nil, iD_len, iE_len, and_true, true_and, Bool.not_true, Bool.not_false, if_true, if_false, Bool.false_eq_true, decide_eq_true_eq, Bool.not_eq_true', decide_eq_false_iff_not, wFor, wRng1, wRng2, wRng3, wName, endsD, startG, List.map_cons, List.map_nil, List.replicate, List.cons_append, List.nil_append, look, wCall, Option.some.injEq, exists_eq_left', wPar, DL.putAt, wSetQ, wApp_eq, appO_iL, isLst_iL, wPop_eq, popO_iL, Nat.zero_le, not_true_eq_false, not_false_eq_true, wLc, wipeG, restG, keepD_none, keepD_d, keepD_iL, items_tup, items_lst, wYes, wTTup, wTCons, wTNil]
    refine ⟨by decide, mulOk (m := 31) (n := 16) (by unfold Bd; omega) (show (48271 : Nat) < 2 ^ 16 by decide) (by decide), by decide, by decide, by decide, ?_⟩
    rw [← hR]
    exact mix_loop xs _ _ (Int.fmod_nonneg_of_pos _ (by decide)) (Int.fmod_lt_of_pos _ (by decide)) h
theorem WK__law_tpen : ∀ ns, S__law_tpen.pre ns → W__law_tpen (endsD (S__law_tpen.post ns)) (startR 3 ns) := by
  intro ns h
  have h : ns.length ≤ 63 := h
  simp only [W__law_tpen, S__law_tpen, startR, varK_ro, sqO_ro, wSeq, wSet, wAsg, wExpr, wRet, wIf, wTest, wNotT, wAndT, wOrT, wIfE, w1, w2, wn, wNil, wCons, wVar, varK_iL, varK_d, wC, wLst, wTup, wQ, qVar_eq, qvO_iL, qvO_d, qC, qI, qNeg, qLen, wNext, takesOf, take_al, take_t, takeO_iL, frzsOf, frzOf, datsOf, datOf, on1, on2, put_t, put_al, putO_iL, toD_iL, toD_d, flat_iL, flat_d, lst_nil, lst_one, lst_iE, lst_iD, nil_dT, nil_dL, fList_dL, fList_dT, fTuple_dL, fTuple_dT, fLen_dL, fLen_dT, fSum_dL, fCat_dL, fCat_int, fRep_dL, fRep_int, fSub_int, fMod_int, fDiv_int, fLt_int, fLe_int, fGt_int, fGe_int, fNeg_int, fAbs_int, fMax2_int, fMin2_int, fInt_int, fInt_bool, fSl_dL, fSl_dT, fSl3_dL, fSl3_dT, fEq_int, fNe_int, fEq_dL, fNe_dL, fEq_dT, fNe_dT, items_dL, items_dT, wSl, wSl3, wNo, wPart, wSq_eq, sqK_t, sqK_al, sqO_iL, qIx_eq, qIxK, lstAt_eq, lstO_iL, DL.placeOf, T.get, core_d, re_iL, re_d, T.put, List.getElem?_cons_zero, List.getElem?_cons_succ, List.set_cons_zero, List.set_cons_succ, List.length_cons, List.length_nil, iD_len, iE_len, and_true, true_and, Bool.not_true, Bool.not_false, if_true, if_false, Bool.false_eq_true, decide_eq_true_eq, Bool.not_eq_true', decide_eq_false_iff_not, wFor, wRng1, wRng2, wRng3, wName, endsD, startG, List.map_cons, List.map_nil, List.replicate, List.cons_append, List.nil_append, look, wCall, Option.some.injEq, exists_eq_left', wPar, DL.putAt, wSetQ, wApp_eq, appO_iL, isLst_iL, wPop_eq, popO_iL, Nat.zero_le, not_true_eq_false, not_false_eq_true, wLc, wipeG, restG, keepD_none, keepD_d, keepD_iL, items_tup, items_lst, wYes, wTTup, wTCons, wTNil]
  refine ⟨by decide, ?_⟩
  refine mix_loop ns 7 none (by decide) (by decide) fun m o m1 m2 => ?_
  simp only [varK_ro, sqO_ro, wDict, wSeq, wSet, wAsg, wExpr, wRet, wIf, wTest, wNotT, wAndT, wOrT, wIfE, w1, w2, wn, wNil, wCons, wVar, varK_iL, varK_d, wC, wLst, wTup, wQ, qVar_eq, qvO_iL, qvO_d, qC, qI, qNeg, qLen, wNext, takesOf, take_al, take_t, takeO_iL, frzsOf, frzOf, datsOf, datOf, on1, on2, put_t, put_al, putO_iL, toD_iL, toD_d, flat_iL, flat_d, lst_nil, lst_one, lst_iE, lst_iD, nil_dT, nil_dL, fList_dL, fList_dT, fTuple_dL, fTuple_dT, fLen_dL, fLen_dT, fSum_dL, fCat_dL, fCat_int, fRep_dL, fRep_int, fSub_int, fMod_int, fDiv_int, fLt_int, fLe_int, fGt_int, fGe_int, fNeg_int, fAbs_int, fMax2_int, fMin2_int, fInt_int, fInt_bool, fSl_dL, fSl_dT, fSl3_dL, fSl3_dT, fEq_int, fNe_int, fEq_dL, fNe_dL, fEq_dT, fNe_dT, items_dL, items_dT, wSl, wSl3, wNo, wPart, wSq_eq, sqK_t, sqK_al, sqO_iL, qIx_eq, qIxK, lstAt_eq, lstO_iL, DL.placeOf, T.get, core_d, re_iL, re_d, T.put, List.getElem?_cons_zero, List.getElem?_cons_succ, List.set_cons_zero, List.set_cons_succ, List.length_cons, List.length_nil, iD_len, iE_len, and_true, true_and, Bool.not_true, Bool.not_false, if_true, if_false, Bool.false_eq_true, decide_eq_true_eq, Bool.not_eq_true', decide_eq_false_iff_not, wFor, wRng1, wRng2, wRng3, wName, endsD, startG, List.map_cons, List.map_nil, List.replicate, List.cons_append, List.nil_append, look, wCall, Option.some.injEq, exists_eq_left', wPar, DL.putAt, wSetQ, wApp_eq, appO_iL, isLst_iL, wPop_eq, popO_iL, Nat.zero_le, not_true_eq_false, not_false_eq_true, wLc, wipeG, restG, keepD_none, keepD_d, keepD_iL, items_tup, items_lst, wYes, wTTup, wTCons, wTNil]
  refine ⟨le1000 (by first | omega | (rw [List.length_map]; omega)), ?_⟩
  refine lcW_filter (fun x => decide (10 ^ 15 ≤ x)) ns [] (fun n hn R R2 hR hR2 => ?_) ?_
  · simp only [C__law_tpen_1, E__law_tpen_2, fPow, fIc, wSeq, wSet, wAsg, wExpr, wRet, wIf, wTest, wNotT, wAndT, wOrT, wIfE, w1, w2, wn, wNil, wCons, wVar, varK_iL, varK_d, wC, wLst, wTup, wQ, qVar_eq, qvO_iL, qvO_d, qC, qI, qNeg, qLen, wNext, takesOf, take_al, take_t, takeO_iL, frzsOf, frzOf, datsOf, datOf, on1, on2, put_t, put_al, putO_iL, toD_iL, toD_d, flat_iL, flat_d, lst_nil, lst_one, lst_iE, lst_iD, nil_dT, nil_dL, fList_dL, fList_dT, fTuple_dL, fTuple_dT, fLen_dL, fLen_dT, fSum_dL, fCat_dL, fCat_int, fRep_dL, fRep_int, fSub_int, fMod_int, fDiv_int, fLt_int, fLe_int, fGt_int, fGe_int, fNeg_int, fAbs_int, fMax2_int, fMin2_int, fInt_int, fInt_bool, fSl_dL, fSl_dT, fSl3_dL, fSl3_dT, fEq_int, fNe_int, fEq_dL, fNe_dL, fEq_dT, fNe_dT, items_dL, items_dT, wSl, wSl3, wNo, wPart, wSq_eq, sqK_t, sqK_al, sqO_iL, qIx_eq, qIxK, lstAt_eq, lstO_iL, DL.placeOf, T.get, core_d, re_iL, re_d, T.put, List.getElem?_cons_zero, List.getElem?_cons_succ, List.set_cons_zero, List.set_cons_succ, List.length_cons, List.length_nil, iD_len, iE_len, and_true, true_and, Bool.not_true, Bool.not_false, if_true, if_false, Bool.false_eq_true, decide_eq_true_eq, Bool.not_eq_true', decide_eq_false_iff_not, wFor, wRng1, wRng2, wRng3, wName, endsD, startG, List.map_cons, List.map_nil, List.replicate, List.cons_append, List.nil_append, look, wCall, Option.some.injEq, exists_eq_left', wPar, DL.putAt, wSetQ, wApp_eq, appO_iL, isLst_iL, wPop_eq, popO_iL, Nat.zero_le, not_true_eq_false, not_false_eq_true, wLc, wipeG, restG, keepD_none, keepD_d, keepD_iL, items_tup, items_lst, wYes, wTTup, wTCons, wTNil]
    refine ⟨by decide, cpow15, ?_⟩
    by_cases hc : (10 : Int) ^ 15 ≤ n
    · rw [if_pos (show (10 : Int) ^ (Int.toNat 15) ≤ n from hc)]
      exact hR (decide_eq_true hc)
    · rw [if_neg (show ¬ (10 : Int) ^ (Int.toNat 15) ≤ n from hc)]
      exact hR2 (decide_eq_false hc)
  · rw [List.nil_append]
    refine ⟨m, ns.filter fun x => decide (10 ^ 15 ≤ x), rfl, m1, m2, Int.le_refl 0, fun x hx => ?_⟩
    have := of_decide_eq_true (List.mem_filter.mp hx).2
    have h15 : (0 : Int) ≤ 10 ^ 15 := by decide
    omega
end RT
end
section
set_option autoImplicit false
namespace RT
open PySem PySem.Spec PyProof.Rows L2 DL
/-- a square table of so many lines, numbers not above so much -/
def isTab (n : Nat) (c : Int) (A : List (List Int)) : Prop := A.length = n ∧ (∀ r ∈ A, r.length = n) ∧ ∀ r ∈ A, ∀ x ∈ r, -c ≤ x ∧ x ≤ c
def S__law_ttable : FO := ⟨Pn × Int × Int, fun x => x.1.T, fun x => [.int x.2.1, .int x.2.2], fun x => 0 < x.2.1 ∧ x.2.1 ≤ 6 ∧ 0 ≤ x.2.2 ∧ x.2.2 ≤ 1000 ∧ x.1.ok ∧ x.1.t ≤ 900000000,
  fun x r t' => ∃ (n : Nat) (A : List (List Int)) (q : Pn), r = .d (tT A) ∧ 1 ≤ n ∧ (n : Int) ≤ x.2.1 ∧ isTab n x.2.2 A ∧ t' = q.T ∧ q.ok ∧ q.t ≤ x.1.t + 1000⟩
def S__law_tcarry : FS := ⟨List (List Int) × Sq, fun x => [tT x.1, x.2.d], fun x => x.1.length ≤ 1000 ∧ (∀ r ∈ x.1, r.length ≤ 1000) ∧ ∃ B C, Bdt B x.1 ∧ Bds C x.2.v ∧ B + C ≤ 134217728, fun x r => r = iL (carryT x.1 x.2.v)⟩
def turnT (A : List (List Int)) : List (List Int) := (List.range A.length).map fun k => A.map fun r => at0 r k
def S__law_tturned : FS := ⟨List (List Int), fun A => [tT A], fun A => A.length ≤ 1000 ∧ ∀ r ∈ A, r.length = A.length, fun A r => r = .d (tT (turnT A))⟩
def S__law_tproduct : FS := ⟨List (List Int) × List (List Int), fun x => [tT x.1, tT x.2], fun x => x.1.length ≤ 1000 ∧ x.2.length = x.1.length ∧ (∀ r ∈ x.1, r.length = x.1.length) ∧ (∀ r ∈ x.2, r.length = x.1.length) ∧ ∃ B C, Bdt B x.1 ∧ Bdt C x.2 ∧ B + C ≤ 134217728,
  fun x r => r = .d (tT (x.1.map fun r => carryT (turnT x.2) r))⟩
end RT
end
section
/-! printed by gen.py: what each def reads -/
namespace RT
open PySem PySem.Spec PyProof.Rows L2 DL
def E__law_ttable_1 : WE := (w2 (wVar 9) (wn (wCons (w2 (wCallO S__law_tdraw 0 (wCons (wC (.int 3)) wNil)) (wVar 4) fLt) wNil) (on1 fInt)) fRep)
def E__law_ttable_2 : WE := (w2 (wCallO S__law_tdraw 0 (wCons (w2 (w2 (wC (.int 2)) (wVar 2) fRep) (wC (.int 1)) fCat) wNil)) (wVar 2) fSub)
def B__law_ttable_3 : WS := (wSeq (wSet 7 (wLc (wRng1 (wCons (wVar 3) wNil)) (wName 8) wYes E__law_ttable_2 [8])) (wExpr (fun G k => isLst G[5]? ∧ wApp 5 (wn (wCons (wLc (wSq (wVar 7)) (wName 9) wYes E__law_ttable_1 [9]) wNil) (on1 fTuple)) G k)))
def W__law_ttable : WS := (wSeq (wSet 3 (w2 (wC (.int 1)) (wCallO S__law_tdraw 0 (wCons (wVar 1) wNil)) fCat)) (wSeq (wSet 4 (w2 (wC (.int 1)) (wCallO S__law_tdraw 0 (wCons (wC (.int 3)) wNil)) fCat)) (wSeq (wSet 5 (wLst wNil)) (wSeq (wFor (wRng1 (wCons (wVar 3) wNil)) (wName 6) B__law_ttable_3) (wRet (wn (wCons (wVar 5) wNil) (on1 fTuple)))))))
def E__law_tcarry_1 : WE := (w2 (wVar 2) (wVar 3) fRep)
def E__law_tcarry_2 : WE := (wn (wCons (wLc (wZp (wCons (wVar 4) (wCons (wVar 1) wNil))) (wTTup 2 (wTCons (wName 2) (wTCons (wName 3) wTNil))) wYes E__law_tcarry_1 [2, 3]) wNil) (on1 fSum))
def W__law_tcarry : WS := (wRet (wLc (wSq (wVar 0)) (wName 4) wYes E__law_tcarry_2 [4]))
def E__law_tturned_1 : WE := (wQ (qIx (qVar 1) (qVar 2)))
def E__law_tturned_2 : WE := (wn (wCons (wLc (wSq (wVar 0)) (wName 1) wYes E__law_tturned_1 [1]) wNil) (on1 fTuple))
def W__law_tturned : WS := (wRet (wn (wCons (wLc (wRng1 (wCons (wQ (qLen (qVar 0))) wNil)) (wName 2) wYes E__law_tturned_2 [2]) wNil) (on1 fTuple)))
def E__law_tproduct_1 : WE := (wn (wCons (wCall S__law_tcarry (wCons (wVar 2) (wCons (wVar 3) wNil))) wNil) (on1 fTuple))
def W__law_tproduct : WS := (wSeq (wSet 2 (wCall S__law_tturned (wCons (wVar 1) wNil))) (wRet (wn (wCons (wLc (wSq (wVar 0)) (wName 3) wYes E__law_tproduct_1 [3]) wNil) (on1 fTuple))))
end RT
end
section
set_option autoImplicit false
namespace RT
open PySem PySem.Spec PyProof.Rows L2 DL
theorem WK__law_tcarry : ∀ x, S__law_tcarry.pre x → W__law_tcarry (endsD (S__law_tcarry.post x)) (startG 5 (S__law_tcarry.args x)) := fun ⟨A, v⟩ h => WK_carried (.t A, v) h
theorem dsOf_dT {α : Type} (f : α → List Int) (l : List α) : T.toDs (l.map fun k => T.d (dT (f k))) = some ((l.map f).map dT) := by
  have := T.toDs_map ((l.map f).map dT)
  rw [List.map_map, List.map_map] at this
  exact this.trans (by rw [List.map_map])
theorem tup_rows {α : Type} (f : α → List Int) (l : List α) : (T.lst (l.map fun k => T.d (dT (f k)))).toD = some (.list ((l.map f).map dT)) := by
  rw [T.toD, dsOf_dT]
  rfl
theorem fTuple_list {ds : List PyData} {k : T → Prop} : fTuple (.list ds) k = k (.d (.tuple ds)) := rfl
theorem WK__law_tturned : ∀ x, S__law_tturned.pre x → W__law_tturned (endsD (S__law_tturned.post x)) (startG 3 (S__law_tturned.args x)) := by
  intro (A : List (List Int)) ⟨h1, h2⟩
  simp only [W__law_tturned, S__law_tturned, wSeq, wSet, wAsg, wExpr, wRet, wIf, wTest, wNotT, wAndT, wOrT, wIfE, w1, w2, wn, wNil, wCons, wVar, varK_iL, varK_d, wC, wLst, wTup, wQ, qVar_eq, qvO_iL, qvO_d, qC, qI, qNeg, qLen, wNext, takesOf, take_al, take_t, takeO_iL, frzsOf, frzOf, datsOf, datOf, on1, on2, put_t, put_al, putO_iL, toD_iL, toD_d, flat_iL, flat_d, lst_nil, lst_one, lst_iE, lst_iD, nil_dT, nil_dL, fList_dL, fList_dT, fTuple_dL, fTuple_dT, fLen_dL, fLen_dT, fSum_dL, fCat_dL, fCat_int, fRep_dL, fRep_int, fSub_int, fMod_int, fDiv_int, fLt_int, fLe_int, fGt_int, fGe_int, fNeg_int, fAbs_int, fMax2_int, fMin2_int, fInt_int, fInt_bool, fSl_dL, fSl_dT, fSl3_dL, fSl3_dT, fEq_int, fNe_int, fEq_dL, fNe_dL, fEq_dT, fNe_dT, items_dL, items_dT, wSl, wSl3, wNo, wPart, wSq_eq, sqK_t, sqK_al, sqO_iL, qIx_eq, qIxK, lstAt_eq, lstO_iL, DL.placeOf, T.get, core_d, re_iL, re_d, T.put, List.getElem?_cons_zero, List.getElem?_cons_succ, List.set_cons_zero, List.set_cons_succ, List.length_cons, List.length_nil, iD_len, iE_len, and_true, true_and, Bool.not_true, Bool.not_false, if_true, if_false, Bool.false_eq_true, decide_eq_true_eq, Bool.not_eq_true', decide_eq_false_iff_not, wFor, wRng1, wRng2, wRng3, wName, endsD, startG, List.map_cons, List.map_nil, List.replicate, List.cons_append, List.nil_append, look, wCall, Option.some.injEq, exists_eq_left', wPar, DL.putAt, wSetQ, wApp_eq, appO_iL, isLst_iL, wPop_eq, popO_iL, Nat.zero_le, not_true_eq_false, not_false_eq_true, wLc, wipeG, restG, toD_iLL, varK_iLL, qvO_iLL, lstO_iLL, re_iLL, lst_iLL, items_tT, items_tL, takeO_iLL, putO_iLL, sqO_iLL, keepD_iLL, wZp, keepD_none, keepD_d, keepD_iL, items_tup, items_lst, wYes, wTTup, wTCons, wTNil, List.length_map, Int.toNat_natCast]
  refine ⟨⟨by omega, by omega⟩, by rw [rangeD_len]; exact le1000 h1, ?_⟩
  refine lcW_range (fun k => .d (dT (A.map fun r => at0 r k))) 0 A.length (fun k hk R R2 hR => ?_) ?_
  · have e1 : ((0 : Int) + (k : Int)) = (k : Int) := by omega
    rw [e1]
    simp only [E__law_tturned_2, wSeq, wSet, wAsg, wExpr, wRet, wIf, wTest, wNotT, wAndT, wOrT, wIfE, w1, w2, wn, wNil, wCons, wVar, varK_iL, varK_d, wC, wLst, wTup, wQ, qVar_eq, qvO_iL, qvO_d, qC, qI, qNeg, qLen, wNext, takesOf, take_al, take_t, takeO_iL, frzsOf, frzOf, datsOf, datOf, on1, on2, put_t, put_al, putO_iL, toD_iL, toD_d, flat_iL, flat_d, lst_nil, lst_one, lst_iE, lst_iD, nil_dT, nil_dL, fList_dL, fList_dT, fTuple_dL, fTuple_dT, fLen_dL, fLen_dT, fSum_dL, fCat_dL, fCat_int, fRep_dL, fRep_int, fSub_int, fMod_int, fDiv_int, fLt_int, fLe_int, fGt_int, fGe_int, fNeg_int, fAbs_int, fMax2_int, fMin2_int, fInt_int, fInt_bool, fSl_dL, fSl_dT, fSl3_dL, fSl3_dT, fEq_int, fNe_int, fEq_dL, fNe_dL, fEq_dT, fNe_dT, items_dL, items_dT, wSl, wSl3, wNo, wPart, wSq_eq, sqK_t, sqK_al, sqO_iL, qIx_eq, qIxK, lstAt_eq, lstO_iL, DL.placeOf, T.get, core_d, re_iL, re_d, T.put, List.getElem?_cons_zero, List.getElem?_cons_succ, List.set_cons_zero, List.set_cons_succ, List.length_cons, List.length_nil, iD_len, iE_len, and_true, true_and, Bool.not_true, Bool.not_false, if_true, if_false, Bool.false_eq_true, decide_eq_true_eq, Bool.not_eq_true', decide_eq_false_iff_not, wFor, wRng1, wRng2, wRng3, wName, endsD, startG, List.map_cons, List.map_nil, List.replicate, List.cons_append, List.nil_append, look, wCall, Option.some.injEq, exists_eq_left', wPar, DL.putAt, wSetQ, wApp_eq, appO_iL, isLst_iL, wPop_eq, popO_iL, Nat.zero_le, not_true_eq_false, not_false_eq_true, wLc, wipeG, restG, toD_iLL, varK_iLL, qvO_iLL, lstO_iLL, re_iLL, lst_iLL, items_tT, items_tL, takeO_iLL, putO_iLL, sqO_iLL, keepD_iLL, wZp, keepD_none, keepD_d, keepD_iL, items_tup, items_lst, wYes, wTTup, wTCons, wTNil, List.length_map]
    refine ⟨by decide, le1000 h1, ?_⟩
    refine lcW_rows dT (fun _ _ => dT_inj) (fun r => .d (.int (at0 r k))) A (fun r hr R R2 hR => ?_) ?_
    · simp only [E__law_tturned_1, wSeq, wSet, wAsg, wExpr, wRet, wIf, wTest, wNotT, wAndT, wOrT, wIfE, w1, w2, wn, wNil, wCons, wVar, varK_iL, varK_d, wC, wLst, wTup, wQ, qVar_eq, qvO_iL, qvO_d, qC, qI, qNeg, qLen, wNext, takesOf, take_al, take_t, takeO_iL, frzsOf, frzOf, datsOf, datOf, on1, on2, put_t, put_al, putO_iL, toD_iL, toD_d, flat_iL, flat_d, lst_nil, lst_one, lst_iE, lst_iD, nil_dT, nil_dL, fList_dL, fList_dT, fTuple_dL, fTuple_dT, fLen_dL, fLen_dT, fSum_dL, fCat_dL, fCat_int, fRep_dL, fRep_int, fSub_int, fMod_int, fDiv_int, fLt_int, fLe_int, fGt_int, fGe_int, fNeg_int, fAbs_int, fMax2_int, fMin2_int, fInt_int, fInt_bool, fSl_dL, fSl_dT, fSl3_dL, fSl3_dT, fEq_int, fNe_int, fEq_dL, fNe_dL, fEq_dT, fNe_dT, items_dL, items_dT, wSl, wSl3, wNo, wPart, wSq_eq, sqK_t, sqK_al, sqO_iL, qIx_eq, qIxK, lstAt_eq, lstO_iL, DL.placeOf, T.get, core_d, re_iL, re_d, T.put, List.getElem?_cons_zero, List.getElem?_cons_succ, List.set_cons_zero, List.set_cons_succ, List.length_cons, List.length_nil, iD_len, iE_len, and_true, true_and, Bool.not_true, Bool.not_false, if_true, if_false, Bool.false_eq_true, decide_eq_true_eq, Bool.not_eq_true', decide_eq_false_iff_not, wFor, wRng1, wRng2, wRng3, wName, endsD, startG, List.map_cons, List.map_nil, List.replicate, List.cons_append, List.nil_append, look, wCall, Option.some.injEq, exists_eq_left', wPar, DL.putAt, wSetQ, wApp_eq, appO_iL, isLst_iL, wPop_eq, popO_iL, Nat.zero_le, not_true_eq_false, not_false_eq_true, wLc, wipeG, restG, toD_iLL, varK_iLL, qvO_iLL, lstO_iLL, re_iLL, lst_iLL, items_tT, items_tL, takeO_iLL, putO_iLL, sqO_iLL, keepD_iLL, wZp, keepD_none, keepD_d, keepD_iL, items_tup, items_lst, wYes, wTTup, wTCons, wTNil, items_dT, atI_at (rfl : (k : Int) = (k : Int)) (lt1 (h2 r hr) hk)]
      exact ⟨by decide, hR⟩
    · rw [rows_map]
      simp only [wSeq, wSet, wAsg, wExpr, wRet, wIf, wTest, wNotT, wAndT, wOrT, wIfE, w1, w2, wn, wNil, wCons, wVar, varK_iL, varK_d, wC, wLst, wTup, wQ, qVar_eq, qvO_iL, qvO_d, qC, qI, qNeg, qLen, wNext, takesOf, take_al, take_t, takeO_iL, frzsOf, frzOf, datsOf, datOf, on1, on2, put_t, put_al, putO_iL, toD_iL, toD_d, flat_iL, flat_d, lst_nil, lst_one, lst_iE, lst_iD, nil_dT, nil_dL, fList_dL, fList_dT, fTuple_dL, fTuple_dT, fLen_dL, fLen_dT, fSum_dL, fCat_dL, fCat_int, fRep_dL, fRep_int, fSub_int, fMod_int, fDiv_int, fLt_int, fLe_int, fGt_int, fGe_int, fNeg_int, fAbs_int, fMax2_int, fMin2_int, fInt_int, fInt_bool, fSl_dL, fSl_dT, fSl3_dL, fSl3_dT, fEq_int, fNe_int, fEq_dL, fNe_dL, fEq_dT, fNe_dT, items_dL, items_dT, wSl, wSl3, wNo, wPart, wSq_eq, sqK_t, sqK_al, sqO_iL, qIx_eq, qIxK, lstAt_eq, lstO_iL, DL.placeOf, T.get, core_d, re_iL, re_d, T.put, List.getElem?_cons_zero, List.getElem?_cons_succ, List.set_cons_zero, List.set_cons_succ, List.length_cons, List.length_nil, iD_len, iE_len, and_true, true_and, Bool.not_true, Bool.not_false, if_true, if_false, Bool.false_eq_true, decide_eq_true_eq, Bool.not_eq_true', decide_eq_false_iff_not, wFor, wRng1, wRng2, wRng3, wName, endsD, startG, List.map_cons, List.map_nil, List.replicate, List.cons_append, List.nil_append, look, wCall, Option.some.injEq, exists_eq_left', wPar, DL.putAt, wSetQ, wApp_eq, appO_iL, isLst_iL, wPop_eq, popO_iL, Nat.zero_le, not_true_eq_false, not_false_eq_true, wLc, wipeG, restG, toD_iLL, varK_iLL, qvO_iLL, lstO_iLL, re_iLL, lst_iLL, items_tT, items_tL, takeO_iLL, putO_iLL, sqO_iLL, keepD_iLL, wZp, keepD_none, keepD_d, keepD_iL, items_tup, items_lst, wYes, wTTup, wTCons, wTNil]
      exact hR
  · simp only [tup_rows, wSeq, wSet, wAsg, wExpr, wRet, wIf, wTest, wNotT, wAndT, wOrT, wIfE, w1, w2, wn, wNil, wCons, wVar, varK_iL, varK_d, wC, wLst, wTup, wQ, qVar_eq, qvO_iL, qvO_d, qC, qI, qNeg, qLen, wNext, takesOf, take_al, take_t, takeO_iL, frzsOf, frzOf, datsOf, datOf, on1, on2, put_t, put_al, putO_iL, toD_iL, toD_d, flat_iL, flat_d, lst_nil, lst_one, lst_iE, lst_iD, nil_dT, nil_dL, fList_dL, fList_dT, fTuple_dL, fTuple_dT, fLen_dL, fLen_dT, fSum_dL, fCat_dL, fCat_int, fRep_dL, fRep_int, fSub_int, fMod_int, fDiv_int, fLt_int, fLe_int, fGt_int, fGe_int, fNeg_int, fAbs_int, fMax2_int, fMin2_int, fInt_int, fInt_bool, fSl_dL, fSl_dT, fSl3_dL, fSl3_dT, fEq_int, fNe_int, fEq_dL, fNe_dL, fEq_dT, fNe_dT, items_dL, items_dT, wSl, wSl3, wNo, wPart, wSq_eq, sqK_t, sqK_al, sqO_iL, qIx_eq, qIxK, lstAt_eq, lstO_iL, DL.placeOf, T.get, core_d, re_iL, re_d, T.put, List.getElem?_cons_zero, List.getElem?_cons_succ, List.set_cons_zero, List.set_cons_succ, List.length_cons, List.length_nil, iD_len, iE_len, and_true, true_and, Bool.not_true, Bool.not_false, if_true, if_false, Bool.false_eq_true, decide_eq_true_eq, Bool.not_eq_true', decide_eq_false_iff_not, wFor, wRng1, wRng2, wRng3, wName, endsD, startG, List.map_cons, List.map_nil, List.replicate, List.cons_append, List.nil_append, look, wCall, Option.some.injEq, exists_eq_left', wPar, DL.putAt, wSetQ, wApp_eq, appO_iL, isLst_iL, wPop_eq, popO_iL, Nat.zero_le, not_true_eq_false, not_false_eq_true, wLc, wipeG, restG, toD_iLL, varK_iLL, qvO_iLL, lstO_iLL, re_iLL, lst_iLL, items_tT, items_tL, takeO_iLL, putO_iLL, sqO_iLL, keepD_iLL, wZp, keepD_none, keepD_d, keepD_iL, items_tup, items_lst, wYes, wTTup, wTCons, wTNil, fTuple_list]
    rfl
theorem turn_len (A : List (List Int)) : (turnT A).length = A.length := by
  unfold turnT
  rw [List.length_map, List.length_range]
theorem turn_row {A : List (List Int)} {r : List Int} (h : r ∈ turnT A) : r.length = A.length := by
  obtain ⟨k, _, rfl⟩ := List.mem_map.mp h
  rw [List.length_map]
theorem turn_bd {B : Nat} {A : List (List Int)} (h : Bdt B A) : Bdt B (turnT A) := fun r hr x hx => by
  obtain ⟨k, _, rfl⟩ := List.mem_map.mp hr
  obtain ⟨q, hq, rfl⟩ := List.mem_map.mp hx
  exact (h q hq).at0 k
theorem WK__law_tproduct : ∀ x, S__law_tproduct.pre x → W__law_tproduct (endsD (S__law_tproduct.post x)) (startG 4 (S__law_tproduct.args x)) := by
  rintro ⟨A, M⟩ ⟨h1, h2, h3, h4, B, C, hB, hC, hBC⟩
  have h1 : A.length ≤ 1000 := h1
  have h2 : M.length = A.length := h2
  have h3 : ∀ r ∈ A, r.length = A.length := h3
  have h4 : ∀ r ∈ M, r.length = A.length := h4
  simp only [W__law_tproduct, S__law_tproduct, wSeq, wSet, wAsg, wExpr, wRet, wIf, wTest, wNotT, wAndT, wOrT, wIfE, w1, w2, wn, wNil, wCons, wVar, varK_iL, varK_d, wC, wLst, wTup, wQ, qVar_eq, qvO_iL, qvO_d, qC, qI, qNeg, qLen, wNext, takesOf, take_al, take_t, takeO_iL, frzsOf, frzOf, datsOf, datOf, on1, on2, put_t, put_al, putO_iL, toD_iL, toD_d, flat_iL, flat_d, lst_nil, lst_one, lst_iE, lst_iD, nil_dT, nil_dL, fList_dL, fList_dT, fTuple_dL, fTuple_dT, fLen_dL, fLen_dT, fSum_dL, fCat_dL, fCat_int, fRep_dL, fRep_int, fSub_int, fMod_int, fDiv_int, fLt_int, fLe_int, fGt_int, fGe_int, fNeg_int, fAbs_int, fMax2_int, fMin2_int, fInt_int, fInt_bool, fSl_dL, fSl_dT, fSl3_dL, fSl3_dT, fEq_int, fNe_int, fEq_dL, fNe_dL, fEq_dT, fNe_dT, items_dL, items_dT, wSl, wSl3, wNo, wPart, wSq_eq, sqK_t, sqK_al, sqO_iL, qIx_eq, qIxK, lstAt_eq, lstO_iL, DL.placeOf, T.get, core_d, re_iL, re_d, T.put, List.getElem?_cons_zero, List.getElem?_cons_succ, List.set_cons_zero, List.set_cons_succ, List.length_cons, List.length_nil, iD_len, iE_len, and_true, true_and, Bool.not_true, Bool.not_false, if_true, if_false, Bool.false_eq_true, decide_eq_true_eq, Bool.not_eq_true', decide_eq_false_iff_not, wFor, wRng1, wRng2, wRng3, wName, endsD, startG, List.map_cons, List.map_nil, List.replicate, List.cons_append, List.nil_append, look, wCall, Option.some.injEq, exists_eq_left', wPar, DL.putAt, wSetQ, wApp_eq, appO_iL, isLst_iL, wPop_eq, popO_iL, Nat.zero_le, not_true_eq_false, not_false_eq_true, wLc, wipeG, restG, toD_iLL, varK_iLL, qvO_iLL, lstO_iLL, re_iLL, lst_iLL, items_tT, items_tL, takeO_iLL, putO_iLL, sqO_iLL, keepD_iLL, wZp, keepD_none, keepD_d, keepD_iL, items_tup, items_lst, wYes, wTTup, wTCons, wTNil, List.length_map]
  refine ⟨M, rfl, ⟨by show M.length ≤ 1000; omega, fun r hr => by rw [h4 r hr, h2]⟩, fun r hr => ?_⟩
  have hr : r = .d (tT (turnT M)) := hr
  subst hr
  refine ⟨by decide, le1000 h1, ?_⟩
  refine lcW_rows dT (fun _ _ => dT_inj) (fun r => .d (dT (carryT (turnT M) r))) A (fun r hr R R2 hR => ?_) ?_
  · simp only [E__law_tproduct_1, wSeq, wSet, wAsg, wExpr, wRet, wIf, wTest, wNotT, wAndT, wOrT, wIfE, w1, w2, wn, wNil, wCons, wVar, varK_iL, varK_d, wC, wLst, wTup, wQ, qVar_eq, qvO_iL, qvO_d, qC, qI, qNeg, qLen, wNext, takesOf, take_al, take_t, takeO_iL, frzsOf, frzOf, datsOf, datOf, on1, on2, put_t, put_al, putO_iL, toD_iL, toD_d, flat_iL, flat_d, lst_nil, lst_one, lst_iE, lst_iD, nil_dT, nil_dL, fList_dL, fList_dT, fTuple_dL, fTuple_dT, fLen_dL, fLen_dT, fSum_dL, fCat_dL, fCat_int, fRep_dL, fRep_int, fSub_int, fMod_int, fDiv_int, fLt_int, fLe_int, fGt_int, fGe_int, fNeg_int, fAbs_int, fMax2_int, fMin2_int, fInt_int, fInt_bool, fSl_dL, fSl_dT, fSl3_dL, fSl3_dT, fEq_int, fNe_int, fEq_dL, fNe_dL, fEq_dT, fNe_dT, items_dL, items_dT, wSl, wSl3, wNo, wPart, wSq_eq, sqK_t, sqK_al, sqO_iL, qIx_eq, qIxK, lstAt_eq, lstO_iL, DL.placeOf, T.get, core_d, re_iL, re_d, T.put, List.getElem?_cons_zero, List.getElem?_cons_succ, List.set_cons_zero, List.set_cons_succ, List.length_cons, List.length_nil, iD_len, iE_len, and_true, true_and, Bool.not_true, Bool.not_false, if_true, if_false, Bool.false_eq_true, decide_eq_true_eq, Bool.not_eq_true', decide_eq_false_iff_not, wFor, wRng1, wRng2, wRng3, wName, endsD, startG, List.map_cons, List.map_nil, List.replicate, List.cons_append, List.nil_append, look, wCall, Option.some.injEq, exists_eq_left', wPar, DL.putAt, wSetQ, wApp_eq, appO_iL, isLst_iL, wPop_eq, popO_iL, Nat.zero_le, not_true_eq_false, not_false_eq_true, wLc, wipeG, restG, toD_iLL, varK_iLL, qvO_iLL, lstO_iLL, re_iLL, lst_iLL, items_tT, items_tL, takeO_iLL, putO_iLL, sqO_iLL, keepD_iLL, wZp, keepD_none, keepD_d, keepD_iL, items_tup, items_lst, wYes, wTTup, wTCons, wTNil]
    refine ⟨by decide, (turnT M, .t r), rfl, ⟨by show (turnT M).length ≤ 1000; rw [turn_len]; omega, fun q hq => by rw [turn_row hq]; omega, C, B, turn_bd hC, hB r hr, by omega⟩, fun r' hr' => ?_⟩
    have hr' : r' = iL (carryT (turnT M) r) := hr'
    subst hr'
    simp only [wSeq, wSet, wAsg, wExpr, wRet, wIf, wTest, wNotT, wAndT, wOrT, wIfE, w1, w2, wn, wNil, wCons, wVar, varK_iL, varK_d, wC, wLst, wTup, wQ, qVar_eq, qvO_iL, qvO_d, qC, qI, qNeg, qLen, wNext, takesOf, take_al, take_t, takeO_iL, frzsOf, frzOf, datsOf, datOf, on1, on2, put_t, put_al, putO_iL, toD_iL, toD_d, flat_iL, flat_d, lst_nil, lst_one, lst_iE, lst_iD, nil_dT, nil_dL, fList_dL, fList_dT, fTuple_dL, fTuple_dT, fLen_dL, fLen_dT, fSum_dL, fCat_dL, fCat_int, fRep_dL, fRep_int, fSub_int, fMod_int, fDiv_int, fLt_int, fLe_int, fGt_int, fGe_int, fNeg_int, fAbs_int, fMax2_int, fMin2_int, fInt_int, fInt_bool, fSl_dL, fSl_dT, fSl3_dL, fSl3_dT, fEq_int, fNe_int, fEq_dL, fNe_dL, fEq_dT, fNe_dT, items_dL, items_dT, wSl, wSl3, wNo, wPart, wSq_eq, sqK_t, sqK_al, sqO_iL, qIx_eq, qIxK, lstAt_eq, lstO_iL, DL.placeOf, T.get, core_d, re_iL, re_d, T.put, List.getElem?_cons_zero, List.getElem?_cons_succ, List.set_cons_zero, List.set_cons_succ, List.length_cons, List.length_nil, iD_len, iE_len, and_true, true_and, Bool.not_true, Bool.not_false, if_true, if_false, Bool.false_eq_true, decide_eq_true_eq, Bool.not_eq_true', decide_eq_false_iff_not, wFor, wRng1, wRng2, wRng3, wName, endsD, startG, List.map_cons, List.map_nil, List.replicate, List.cons_append, List.nil_append, look, wCall, Option.some.injEq, exists_eq_left', wPar, DL.putAt, wSetQ, wApp_eq, appO_iL, isLst_iL, wPop_eq, popO_iL, Nat.zero_le, not_true_eq_false, not_false_eq_true, wLc, wipeG, restG, toD_iLL, varK_iLL, qvO_iLL, lstO_iLL, re_iLL, lst_iLL, items_tT, items_tL, takeO_iLL, putO_iLL, sqO_iLL, keepD_iLL, wZp, keepD_none, keepD_d, keepD_iL, items_tup, items_lst, wYes, wTTup, wTCons, wTNil]
    exact hR
  · simp only [tup_rows, wSeq, wSet, wAsg, wExpr, wRet, wIf, wTest, wNotT, wAndT, wOrT, wIfE, w1, w2, wn, wNil, wCons, wVar, varK_iL, varK_d, wC, wLst, wTup, wQ, qVar_eq, qvO_iL, qvO_d, qC, qI, qNeg, qLen, wNext, takesOf, take_al, take_t, takeO_iL, frzsOf, frzOf, datsOf, datOf, on1, on2, put_t, put_al, putO_iL, toD_iL, toD_d, flat_iL, flat_d, lst_nil, lst_one, lst_iE, lst_iD, nil_dT, nil_dL, fList_dL, fList_dT, fTuple_dL, fTuple_dT, fLen_dL, fLen_dT, fSum_dL, fCat_dL, fCat_int, fRep_dL, fRep_int, fSub_int, fMod_int, fDiv_int, fLt_int, fLe_int, fGt_int, fGe_int, fNeg_int, fAbs_int, fMax2_int, fMin2_int, fInt_int, fInt_bool, fSl_dL, fSl_dT, fSl3_dL, fSl3_dT, fEq_int, fNe_int, fEq_dL, fNe_dL, fEq_dT, fNe_dT, items_dL, items_dT, wSl, wSl3, wNo, wPart, wSq_eq, sqK_t, sqK_al, sqO_iL, qIx_eq, qIxK, lstAt_eq, lstO_iL, DL.placeOf, T.get, core_d, re_iL, re_d, T.put, List.getElem?_cons_zero, List.getElem?_cons_succ, List.set_cons_zero, List.set_cons_succ, List.length_cons, List.length_nil, iD_len, iE_len, and_true, true_and, Bool.not_true, Bool.not_false, if_true, if_false, Bool.false_eq_true, decide_eq_true_eq, Bool.not_eq_true', decide_eq_false_iff_not, wFor, wRng1, wRng2, wRng3, wName, endsD, startG, List.map_cons, List.map_nil, List.replicate, List.cons_append, List.nil_append, look, wCall, Option.some.injEq, exists_eq_left', wPar, DL.putAt, wSetQ, wApp_eq, appO_iL, isLst_iL, wPop_eq, popO_iL, Nat.zero_le, not_true_eq_false, not_false_eq_true, wLc, wipeG, restG, toD_iLL, varK_iLL, qvO_iLL, lstO_iLL, re_iLL, lst_iLL, items_tT, items_tL, takeO_iLL, putO_iLL, sqO_iLL, keepD_iLL, wZp, keepD_none, keepD_d, keepD_iL, items_tup, items_lst, wYes, wTTup, wTCons, wTNil, fTuple_list]
    rfl
end RT
end
section
set_option autoImplicit false
namespace RT
open PySem PySem.Spec PyProof.Rows L2 DL
/-- a pen, held with or without its address -/
def PenAt (z : Option Addr) (o : T) (p : Pn) : Prop := o = match z with
  | none => p.T
  | some a => .at a p.T
theorem PenAt.held {z : Option Addr} {o : T} {p : Pn} (h : PenAt z o p) : o.held = true := by
  cases z <;> cases h <;> rfl
theorem PenAt.core {z : Option Addr} {o : T} {p : Pn} (h : PenAt z o p) : o.core = p.T := by
  cases z <;> cases h <;> rfl
theorem PenAt.re {z : Option Addr} {o : T} {p q : Pn} (h : PenAt z o p) : PenAt z (o.re q.T) q := by
  cases z <;> cases h <;> rfl
theorem draw_at {z : Option Addr} {s : Nat} {G : Gm} {o : T} {p : Pn} {c : Int} {k : DL.Tm → Gm → Prop} (hG : G[s]? = some (some o)) (ho : PenAt z o p) (hp : p.ok) (ht : p.t ≤ 1000000000) (hc : 0 < c) {wa : WA} (hwa : ∀ k' : List DL.Tm → Gm → Prop, k' [.t (.d (.int c))] G → wa G k')
    (h : ∀ (n : Int) (q : Pn), 0 ≤ n → n < c → q.ok → q.t ≤ p.t + 1 → k (.t (.d (.int n))) (G.set s (some (o.re q.T)))) : wCallO S__law_tdraw s wa G k := by
  unfold wCallO
  rw [hG]
  refine ⟨ho.held, ?_⟩
  refine hwa _ ?_
  have e : frzsOf G [DL.Tm.t (.d (.int c))] = some ([.int c], G) := by
    simp only [frzsOf, frzOf, toD_d]
  simp only [e, hG]
  refine ⟨ho.held, (p, c), ho.core, rfl, ⟨hc, hp, ht⟩, fun r t' hpost => ?_⟩
  obtain ⟨n, q, rfl, h1, h2, rfl, h3, h4⟩ := hpost
  exact h n q h1 h2 h3 h4
theorem iE_snoc' {xs : List Int} {v : Int} : iE xs ++ [.d (.int v)] = iE (xs ++ [v]) := iE_app v
theorem rangeD_at {n i : Nat} {x : PyData} (h : (rangeD 0 n)[i]? = some x) : i < n ∧ x = .int (i : Int) := by
  obtain ⟨h1, h2⟩ := rangeD_get h
  rw [Int.zero_add] at h2
  exact ⟨h1, h2⟩
theorem line_ok {z : Option Addr} {most often c t0 : Int} {n : Nat} {rows : T} {o6 o7 o9 : Option T} {k : List T → Gm → Prop} {o : T} {p : Pn} (ho : PenAt z o p) (hp : p.ok) (ht : p.t ≤ t0) (ht0 : t0 + n ≤ 1000000000) (hc : 0 ≤ c) (hc2 : c ≤ 1000)
    (hk : ∀ o p xs, PenAt z o p → p.ok → p.t ≤ t0 + n → xs.length = n → (∀ x ∈ xs, -c ≤ x ∧ x ≤ c) → k (iE xs) [some o, some (.d (.int most)), some (.d (.int c)), some (.d (.int n)), some (.d (.int often)), some rows, o6, o7, none, o9]) :
    lcW (wName 8) wYes E__law_ttable_2 [8] (rangeD 0 n) [] [some o, some (.d (.int most)), some (.d (.int c)), some (.d (.int n)), some (.d (.int often)), some rows, o6, o7, none, o9] k := by
  refine lcW_inv (fun i acc G => ∃ o p xs, PenAt z o p ∧ p.ok ∧ p.t ≤ t0 + i ∧ xs.length = i ∧ (∀ x ∈ xs, -c ≤ x ∧ x ≤ c) ∧ acc = iE xs ∧ G = [some o, some (.d (.int most)), some (.d (.int c)), some (.d (.int n)), some (.d (.int often)), some rows, o6, o7, none, o9])
    (rangeD 0 n) 0 [] _ ⟨o, p, [], ho, hp, by omega, rfl, fun x hx => (nomatch hx), rfl, rfl⟩ (fun i x acc G hx hI R hR => ?_) (fun acc G hI => ?_)
  · obtain ⟨hi, rfl⟩ := rangeD_at hx
    obtain ⟨o, p, xs, ho, hp, ht, hl, hb, rfl, rfl⟩ := hI
    simp only [E__law_ttable_2, wSeq, wSet, wAsg, wExpr, wRet, wIf, wTest, wNotT, wAndT, wOrT, wIfE, w1, w2, wn, wNil, wCons, wVar, varK_iL, varK_d, wC, wLst, wTup, wQ, qVar_eq, qvO_iL, qvO_d, qC, qI, qNeg, qLen, wNext, takesOf, take_al, take_t, takeO_iL, frzsOf, frzOf, datsOf, datOf, on1, on2, put_t, put_al, putO_iL, toD_iL, toD_d, flat_iL, flat_d, lst_nil, lst_one, lst_iE, lst_iD, nil_dT, nil_dL, fList_dL, fList_dT, fTuple_dL, fTuple_dT, fLen_dL, fLen_dT, fSum_dL, fCat_dL, fCat_int, fRep_dL, fRep_int, fSub_int, fMod_int, fDiv_int, fLt_int, fLe_int, fGt_int, fGe_int, fNeg_int, fAbs_int, fMax2_int, fMin2_int, fInt_int, fInt_bool, fSl_dL, fSl_dT, fSl3_dL, fSl3_dT, fEq_int, fNe_int, fEq_dL, fNe_dL, fEq_dT, fNe_dT, items_dL, items_dT, wSl, wSl3, wNo, wPart, wSq_eq, sqK_t, sqK_al, sqO_iL, qIx_eq, qIxK, lstAt_eq, lstO_iL, DL.placeOf, T.get, core_d, re_iL, re_d, T.put, List.getElem?_cons_zero, List.getElem?_cons_succ, List.set_cons_zero, List.set_cons_succ, List.length_cons, List.length_nil, iD_len, iE_len, and_true, true_and, Bool.not_true, Bool.not_false, if_true, if_false, Bool.false_eq_true, decide_eq_true_eq, Bool.not_eq_true', decide_eq_false_iff_not, wFor, wRng1, wRng2, wRng3, wName, endsD, startG, List.map_cons, List.map_nil, List.replicate, List.cons_append, List.nil_append, look, wCall, Option.some.injEq, exists_eq_left', wPar, DL.putAt, wSetQ, wApp_eq, appO_iL, isLst_iL, wPop_eq, popO_iL, Nat.zero_le, not_true_eq_false, not_false_eq_true, wLc, wipeG, restG, keepD_none, keepD_d, keepD_iL, items_tup, items_lst, wYes, wTTup, wTCons, wTNil]
    refine ⟨by decide, ?_⟩
    refine draw_at (c := 2 * c + 1) rfl ho hp (by omega) (by omega) (fun k' h => ?_) fun v q h1 h2 h3 h4 => ?_
    · simp only [wSeq, wSet, wAsg, wExpr, wRet, wIf, wTest, wNotT, wAndT, wOrT, wIfE, w1, w2, wn, wNil, wCons, wVar, varK_iL, varK_d, wC, wLst, wTup, wQ, qVar_eq, qvO_iL, qvO_d, qC, qI, qNeg, qLen, wNext, takesOf, take_al, take_t, takeO_iL, frzsOf, frzOf, datsOf, datOf, on1, on2, put_t, put_al, putO_iL, toD_iL, toD_d, flat_iL, flat_d, lst_nil, lst_one, lst_iE, lst_iD, nil_dT, nil_dL, fList_dL, fList_dT, fTuple_dL, fTuple_dT, fLen_dL, fLen_dT, fSum_dL, fCat_dL, fCat_int, fRep_dL, fRep_int, fSub_int, fMod_int, fDiv_int, fLt_int, fLe_int, fGt_int, fGe_int, fNeg_int, fAbs_int, fMax2_int, fMin2_int, fInt_int, fInt_bool, fSl_dL, fSl_dT, fSl3_dL, fSl3_dT, fEq_int, fNe_int, fEq_dL, fNe_dL, fEq_dT, fNe_dT, items_dL, items_dT, wSl, wSl3, wNo, wPart, wSq_eq, sqK_t, sqK_al, sqO_iL, qIx_eq, qIxK, lstAt_eq, lstO_iL, DL.placeOf, T.get, core_d, re_iL, re_d, T.put, List.getElem?_cons_zero, List.getElem?_cons_succ, List.set_cons_zero, List.set_cons_succ, List.length_cons, List.length_nil, iD_len, iE_len, and_true, true_and, Bool.not_true, Bool.not_false, if_true, if_false, Bool.false_eq_true, decide_eq_true_eq, Bool.not_eq_true', decide_eq_false_iff_not, wFor, wRng1, wRng2, wRng3, wName, endsD, startG, List.map_cons, List.map_nil, List.replicate, List.cons_append, List.nil_append, look, wCall, Option.some.injEq, exists_eq_left', wPar, DL.putAt, wSetQ, wApp_eq, appO_iL, isLst_iL, wPop_eq, popO_iL, Nat.zero_le, not_true_eq_false, not_false_eq_true, wLc, wipeG, restG, keepD_none, keepD_d, keepD_iL, items_tup, items_lst, wYes, wTTup, wTCons, wTNil]
      exact ⟨mulOk (m := 2) (n := 10) (show (2 : Nat) < 2 ^ 2 by decide) (by unfold Bd; omega) (by decide), h⟩
    · simp only [wSeq, wSet, wAsg, wExpr, wRet, wIf, wTest, wNotT, wAndT, wOrT, wIfE, w1, w2, wn, wNil, wCons, wVar, varK_iL, varK_d, wC, wLst, wTup, wQ, qVar_eq, qvO_iL, qvO_d, qC, qI, qNeg, qLen, wNext, takesOf, take_al, take_t, takeO_iL, frzsOf, frzOf, datsOf, datOf, on1, on2, put_t, put_al, putO_iL, toD_iL, toD_d, flat_iL, flat_d, lst_nil, lst_one, lst_iE, lst_iD, nil_dT, nil_dL, fList_dL, fList_dT, fTuple_dL, fTuple_dT, fLen_dL, fLen_dT, fSum_dL, fCat_dL, fCat_int, fRep_dL, fRep_int, fSub_int, fMod_int, fDiv_int, fLt_int, fLe_int, fGt_int, fGe_int, fNeg_int, fAbs_int, fMax2_int, fMin2_int, fInt_int, fInt_bool, fSl_dL, fSl_dT, fSl3_dL, fSl3_dT, fEq_int, fNe_int, fEq_dL, fNe_dL, fEq_dT, fNe_dT, items_dL, items_dT, wSl, wSl3, wNo, wPart, wSq_eq, sqK_t, sqK_al, sqO_iL, qIx_eq, qIxK, lstAt_eq, lstO_iL, DL.placeOf, T.get, core_d, re_iL, re_d, T.put, List.getElem?_cons_zero, List.getElem?_cons_succ, List.set_cons_zero, List.set_cons_succ, List.length_cons, List.length_nil, iD_len, iE_len, and_true, true_and, Bool.not_true, Bool.not_false, if_true, if_false, Bool.false_eq_true, decide_eq_true_eq, Bool.not_eq_true', decide_eq_false_iff_not, wFor, wRng1, wRng2, wRng3, wName, endsD, startG, List.map_cons, List.map_nil, List.replicate, List.cons_append, List.nil_append, look, wCall, Option.some.injEq, exists_eq_left', wPar, DL.putAt, wSetQ, wApp_eq, appO_iL, isLst_iL, wPop_eq, popO_iL, Nat.zero_le, not_true_eq_false, not_false_eq_true, wLc, wipeG, restG, keepD_none, keepD_d, keepD_iL, items_tup, items_lst, wYes, wTTup, wTCons, wTNil, iE_snoc']
      refine hR _ _ ⟨_, q, xs ++ [v - c], ho.re, h3, by omega, by rw [List.length_append, hl]; rfl, fun x hx => ?_, rfl, rfl⟩
      rcases List.mem_append.mp hx with hx | hx
      · exact hb x hx
      · rw [List.mem_singleton.mp hx]
        omega
  · obtain ⟨o, p, xs, ho, hp, ht, hl, hb, rfl, rfl⟩ := hI
    rw [rangeD_len] at ht hl
    exact hk o p xs ho hp (by omega) (by omega) hb
theorem iD_at {xs : List Int} {i : Nat} {x : PyData} (h : (iD xs)[i]? = some x) : ∃ v, v ∈ xs ∧ x = .int v ∧ i < xs.length := by
  unfold iD at h
  rw [List.getElem?_map] at h
  cases e : xs[i]? with
  | none => rw [e] at h; cases h
  | some v =>
    rw [e] at h
    cases h
    exact ⟨v, List.mem_of_getElem? e, rfl, (List.getElem?_eq_some_iff.mp e).1⟩
theorem thin_ok {z : Option Addr} {most often c t0 : Int} {n : Nat} {rows : T} {o6 o7 o8 : Option T} {k : List T → Gm → Prop} {o : T} {p : Pn} {ls : List Int} (ho : PenAt z o p) (hp : p.ok) (ht : p.t ≤ t0) (ht0 : t0 + ls.length ≤ 1000000000) (hc : 0 ≤ c) (hc2 : c ≤ 1000) (hls : ∀ x ∈ ls, -c ≤ x ∧ x ≤ c)
    (hk : ∀ o p xs, PenAt z o p → p.ok → p.t ≤ t0 + ls.length → xs.length = ls.length → (∀ x ∈ xs, -c ≤ x ∧ x ≤ c) → k (iE xs) [some o, some (.d (.int most)), some (.d (.int c)), some (.d (.int n)), some (.d (.int often)), some rows, o6, o7, o8, none]) :
    lcW (wName 9) wYes E__law_ttable_1 [9] (iD ls) [] [some o, some (.d (.int most)), some (.d (.int c)), some (.d (.int n)), some (.d (.int often)), some rows, o6, o7, o8, none] k := by
  refine lcW_inv (fun i acc G => ∃ o p xs, PenAt z o p ∧ p.ok ∧ p.t ≤ t0 + i ∧ xs.length = i ∧ (∀ x ∈ xs, -c ≤ x ∧ x ≤ c) ∧ acc = iE xs ∧ G = [some o, some (.d (.int most)), some (.d (.int c)), some (.d (.int n)), some (.d (.int often)), some rows, o6, o7, o8, none])
    (iD ls) 0 [] _ ⟨o, p, [], ho, hp, by omega, rfl, fun x hx => (nomatch hx), rfl, rfl⟩ (fun i x acc G hx hI R hR => ?_) (fun acc G hI => ?_)
  · obtain ⟨v, hv, rfl, hi⟩ := iD_at hx
    obtain ⟨o, p, xs, ho, hp, ht, hl, hb, rfl, rfl⟩ := hI
    simp only [E__law_ttable_1, wSeq, wSet, wAsg, wExpr, wRet, wIf, wTest, wNotT, wAndT, wOrT, wIfE, w1, w2, wn, wNil, wCons, wVar, varK_iL, varK_d, wC, wLst, wTup, wQ, qVar_eq, qvO_iL, qvO_d, qC, qI, qNeg, qLen, wNext, takesOf, take_al, take_t, takeO_iL, frzsOf, frzOf, datsOf, datOf, on1, on2, put_t, put_al, putO_iL, toD_iL, toD_d, flat_iL, flat_d, lst_nil, lst_one, lst_iE, lst_iD, nil_dT, nil_dL, fList_dL, fList_dT, fTuple_dL, fTuple_dT, fLen_dL, fLen_dT, fSum_dL, fCat_dL, fCat_int, fRep_dL, fRep_int, fSub_int, fMod_int, fDiv_int, fLt_int, fLe_int, fGt_int, fGe_int, fNeg_int, fAbs_int, fMax2_int, fMin2_int, fInt_int, fInt_bool, fSl_dL, fSl_dT, fSl3_dL, fSl3_dT, fEq_int, fNe_int, fEq_dL, fNe_dL, fEq_dT, fNe_dT, items_dL, items_dT, wSl, wSl3, wNo, wPart, wSq_eq, sqK_t, sqK_al, sqO_iL, qIx_eq, qIxK, lstAt_eq, lstO_iL, DL.placeOf, T.get, core_d, re_iL, re_d, T.put, List.getElem?_cons_zero, List.getElem?_cons_succ, List.set_cons_zero, List.set_cons_succ, List.length_cons, List.length_nil, iD_len, iE_len, and_true, true_and, Bool.not_true, Bool.not_false, if_true, if_false, Bool.false_eq_true, decide_eq_true_eq, Bool.not_eq_true', decide_eq_false_iff_not, wFor, wRng1, wRng2, wRng3, wName, endsD, startG, List.map_cons, List.map_nil, List.replicate, List.cons_append, List.nil_append, look, wCall, Option.some.injEq, exists_eq_left', wPar, DL.putAt, wSetQ, wApp_eq, appO_iL, isLst_iL, wPop_eq, popO_iL, Nat.zero_le, not_true_eq_false, not_false_eq_true, wLc, wipeG, restG, keepD_none, keepD_d, keepD_iL, items_tup, items_lst, wYes, wTTup, wTCons, wTNil]
    refine ⟨by decide, ?_⟩
    refine draw_at (c := 3) rfl ho hp (by omega) (by decide) (fun k' h => ?_) fun d q h1 h2 h3 h4 => ?_
    · simp only [wSeq, wSet, wAsg, wExpr, wRet, wIf, wTest, wNotT, wAndT, wOrT, wIfE, w1, w2, wn, wNil, wCons, wVar, varK_iL, varK_d, wC, wLst, wTup, wQ, qVar_eq, qvO_iL, qvO_d, qC, qI, qNeg, qLen, wNext, takesOf, take_al, take_t, takeO_iL, frzsOf, frzOf, datsOf, datOf, on1, on2, put_t, put_al, putO_iL, toD_iL, toD_d, flat_iL, flat_d, lst_nil, lst_one, lst_iE, lst_iD, nil_dT, nil_dL, fList_dL, fList_dT, fTuple_dL, fTuple_dT, fLen_dL, fLen_dT, fSum_dL, fCat_dL, fCat_int, fRep_dL, fRep_int, fSub_int, fMod_int, fDiv_int, fLt_int, fLe_int, fGt_int, fGe_int, fNeg_int, fAbs_int, fMax2_int, fMin2_int, fInt_int, fInt_bool, fSl_dL, fSl_dT, fSl3_dL, fSl3_dT, fEq_int, fNe_int, fEq_dL, fNe_dL, fEq_dT, fNe_dT, items_dL, items_dT, wSl, wSl3, wNo, wPart, wSq_eq, sqK_t, sqK_al, sqO_iL, qIx_eq, qIxK, lstAt_eq, lstO_iL, DL.placeOf, T.get, core_d, re_iL, re_d, T.put, List.getElem?_cons_zero, List.getElem?_cons_succ, List.set_cons_zero, List.set_cons_succ, List.length_cons, List.length_nil, iD_len, iE_len, and_true, true_and, Bool.not_true, Bool.not_false, if_true, if_false, Bool.false_eq_true, decide_eq_true_eq, Bool.not_eq_true', decide_eq_false_iff_not, wFor, wRng1, wRng2, wRng3, wName, endsD, startG, List.map_cons, List.map_nil, List.replicate, List.cons_append, List.nil_append, look, wCall, Option.some.injEq, exists_eq_left', wPar, DL.putAt, wSetQ, wApp_eq, appO_iL, isLst_iL, wPop_eq, popO_iL, Nat.zero_le, not_true_eq_false, not_false_eq_true, wLc, wipeG, restG, keepD_none, keepD_d, keepD_iL, items_tup, items_lst, wYes, wTTup, wTCons, wTNil]
      exact h
    · simp only [wSeq, wSet, wAsg, wExpr, wRet, wIf, wTest, wNotT, wAndT, wOrT, wIfE, w1, w2, wn, wNil, wCons, wVar, varK_iL, varK_d, wC, wLst, wTup, wQ, qVar_eq, qvO_iL, qvO_d, qC, qI, qNeg, qLen, wNext, takesOf, take_al, take_t, takeO_iL, frzsOf, frzOf, datsOf, datOf, on1, on2, put_t, put_al, putO_iL, toD_iL, toD_d, flat_iL, flat_d, lst_nil, lst_one, lst_iE, lst_iD, nil_dT, nil_dL, fList_dL, fList_dT, fTuple_dL, fTuple_dT, fLen_dL, fLen_dT, fSum_dL, fCat_dL, fCat_int, fRep_dL, fRep_int, fSub_int, fMod_int, fDiv_int, fLt_int, fLe_int, fGt_int, fGe_int, fNeg_int, fAbs_int, fMax2_int, fMin2_int, fInt_int, fInt_bool, fSl_dL, fSl_dT, fSl3_dL, fSl3_dT, fEq_int, fNe_int, fEq_dL, fNe_dL, fEq_dT, fNe_dT, items_dL, items_dT, wSl, wSl3, wNo, wPart, wSq_eq, sqK_t, sqK_al, sqO_iL, qIx_eq, qIxK, lstAt_eq, lstO_iL, DL.placeOf, T.get, core_d, re_iL, re_d, T.put, List.getElem?_cons_zero, List.getElem?_cons_succ, List.set_cons_zero, List.set_cons_succ, List.length_cons, List.length_nil, iD_len, iE_len, and_true, true_and, Bool.not_true, Bool.not_false, if_true, if_false, Bool.false_eq_true, decide_eq_true_eq, Bool.not_eq_true', decide_eq_false_iff_not, wFor, wRng1, wRng2, wRng3, wName, endsD, startG, List.map_cons, List.map_nil, List.replicate, List.cons_append, List.nil_append, look, wCall, Option.some.injEq, exists_eq_left', wPar, DL.putAt, wSetQ, wApp_eq, appO_iL, isLst_iL, wPop_eq, popO_iL, Nat.zero_le, not_true_eq_false, not_false_eq_true, wLc, wipeG, restG, keepD_none, keepD_d, keepD_iL, items_tup, items_lst, wYes, wTTup, wTCons, wTNil, iE_snoc']
      refine ⟨mulOk (m := 11) (n := 1) (by have := hls v hv; unfold Bd; omega) (by unfold Bd; split <;> decide) (by decide), ?_⟩
      refine hR _ _ ⟨_, q, xs ++ [_], ho.re, h3, by omega, by rw [List.length_append, hl]; rfl, fun x hx => ?_, rfl, rfl⟩
      rcases List.mem_append.mp hx with hx | hx
      · exact hb x hx
      · rw [List.mem_singleton.mp hx]
        have := hls v hv
        split <;> omega
  · obtain ⟨o, p, xs, ho, hp, ht, hl, hb, rfl, rfl⟩ := hI
    rw [iD_len] at ht hl
    exact hk o p xs ho hp (by omega) (by omega) hb
def rwT (A : List (List Int)) : T := .lst (A.map fun r => .d (dT r))
theorem rwT_toD {A : List (List Int)} : (rwT A).toD = some (.list (A.map dT)) := by
  have := tup_rows (fun r => r) A
  rw [List.map_id'] at this
  exact this
theorem appO_rwT {s : Nat} {G : Gm} {k : DL.Tm → Gm → Prop} {A : List (List Int)} {r : List Int} : appO s (.d (dT r)) G k (some (some (rwT A))) = (A.length < sizeLine ∧ k (.t (.d .none)) (G.set s (some (rwT (A ++ [r]))))) := by
  show ((A.map fun r => T.d (dT r)).length < sizeLine ∧ k (.t (.d .none)) (G.set s (some (.lst ((A.map fun r => T.d (dT r)) ++ [.d (dT r)]))))) = _
  unfold rwT
  rw [List.length_map, List.map_append]
  rfl
theorem isLst_rwT {A : List (List Int)} : isLst (some (some (rwT A))) = True := rfl
theorem varK_rwT {i : Nat} {A : List (List Int)} {k : DL.Tm → Prop} : varK i k (some (some (rwT A))) = k (.al i) := rfl
theorem flat_rwT {A : List (List Int)} : (rwT A).flat = some (.list (A.map dT)) := by
  unfold rwT
  have e : (A.map fun r => T.d (dT r)) = (A.map dT).map T.d := by rw [List.map_map]; rfl
  rw [e, T.flat, dsOf_map]
theorem re_at {a : Addr} {p q : Pn} : (T.at a p.T).re q.T = .at a q.T := rfl
theorem WK__law_ttable : ∀ x a, S__law_ttable.pre x → W__law_ttable (endsO a (S__law_ttable.post x)) (startO 10 a (S__law_ttable.own x) (S__law_ttable.args x)) := by
  rintro ⟨p, most, c⟩ a ⟨h1, h2, h3, h4, hp, ht⟩
  have h1 : 0 < most := h1
  have h2 : most ≤ 6 := h2
  have h3 : 0 ≤ c := h3
  have h4 : c ≤ 1000 := h4
  have hp : p.ok := hp
  have ht : p.t ≤ 900000000 := ht
  show W__law_ttable (endsO a (S__law_ttable.post (p, most, c))) [some (.at a p.T), some (.d (.int most)), some (.d (.int c)), none, none, none, none, none, none, none]
  simp only [W__law_ttable, wSeq, wSet, wAsg, wExpr, wRet, wIf, wTest, wNotT, wAndT, wOrT, wIfE, w1, w2, wn, wNil, wCons, wVar, varK_iL, varK_d, wC, wLst, wTup, wQ, qVar_eq, qvO_iL, qvO_d, qC, qI, qNeg, qLen, wNext, takesOf, take_al, take_t, takeO_iL, frzsOf, frzOf, datsOf, datOf, on1, on2, put_t, put_al, putO_iL, toD_iL, toD_d, flat_iL, flat_d, lst_nil, lst_one, lst_iE, lst_iD, nil_dT, nil_dL, fList_dL, fList_dT, fTuple_dL, fTuple_dT, fLen_dL, fLen_dT, fSum_dL, fCat_dL, fCat_int, fRep_dL, fRep_int, fSub_int, fMod_int, fDiv_int, fLt_int, fLe_int, fGt_int, fGe_int, fNeg_int, fAbs_int, fMax2_int, fMin2_int, fInt_int, fInt_bool, fSl_dL, fSl_dT, fSl3_dL, fSl3_dT, fEq_int, fNe_int, fEq_dL, fNe_dL, fEq_dT, fNe_dT, items_dL, items_dT, wSl, wSl3, wNo, wPart, wSq_eq, sqK_t, sqK_al, sqO_iL, qIx_eq, qIxK, lstAt_eq, lstO_iL, DL.placeOf, T.get, core_d, re_iL, re_d, T.put, List.getElem?_cons_zero, List.getElem?_cons_succ, List.set_cons_zero, List.set_cons_succ, List.length_cons, List.length_nil, iD_len, iE_len, and_true, true_and, Bool.not_true, Bool.not_false, if_true, if_false, Bool.false_eq_true, decide_eq_true_eq, Bool.not_eq_true', decide_eq_false_iff_not, wFor, wRng1, wRng2, wRng3, wName, endsD, startG, List.map_cons, List.map_nil, List.replicate, List.cons_append, List.nil_append, look, wCall, Option.some.injEq, exists_eq_left', wPar, DL.putAt, wSetQ, wApp_eq, appO_iL, isLst_iL, wPop_eq, popO_iL, Nat.zero_le, not_true_eq_false, not_false_eq_true, wLc, wipeG, restG, keepD_none, keepD_d, keepD_iL, items_tup, items_lst, wYes, wTTup, wTCons, wTNil]
  refine draw_at (z := some a) (o := .at a p.T) (p := p) (c := most) rfl rfl hp (by omega) h1 (fun k' h => ?_) fun n1 q1 a1 a2 a3 a4 => ?_
  · simp only [wSeq, wSet, wAsg, wExpr, wRet, wIf, wTest, wNotT, wAndT, wOrT, wIfE, w1, w2, wn, wNil, wCons, wVar, varK_iL, varK_d, wC, wLst, wTup, wQ, qVar_eq, qvO_iL, qvO_d, qC, qI, qNeg, qLen, wNext, takesOf, take_al, take_t, takeO_iL, frzsOf, frzOf, datsOf, datOf, on1, on2, put_t, put_al, putO_iL, toD_iL, toD_d, flat_iL, flat_d, lst_nil, lst_one, lst_iE, lst_iD, nil_dT, nil_dL, fList_dL, fList_dT, fTuple_dL, fTuple_dT, fLen_dL, fLen_dT, fSum_dL, fCat_dL, fCat_int, fRep_dL, fRep_int, fSub_int, fMod_int, fDiv_int, fLt_int, fLe_int, fGt_int, fGe_int, fNeg_int, fAbs_int, fMax2_int, fMin2_int, fInt_int, fInt_bool, fSl_dL, fSl_dT, fSl3_dL, fSl3_dT, fEq_int, fNe_int, fEq_dL, fNe_dL, fEq_dT, fNe_dT, items_dL, items_dT, wSl, wSl3, wNo, wPart, wSq_eq, sqK_t, sqK_al, sqO_iL, qIx_eq, qIxK, lstAt_eq, lstO_iL, DL.placeOf, T.get, core_d, re_iL, re_d, T.put, List.getElem?_cons_zero, List.getElem?_cons_succ, List.set_cons_zero, List.set_cons_succ, List.length_cons, List.length_nil, iD_len, iE_len, and_true, true_and, Bool.not_true, Bool.not_false, if_true, if_false, Bool.false_eq_true, decide_eq_true_eq, Bool.not_eq_true', decide_eq_false_iff_not, wFor, wRng1, wRng2, wRng3, wName, endsD, startG, List.map_cons, List.map_nil, List.replicate, List.cons_append, List.nil_append, look, wCall, Option.some.injEq, exists_eq_left', wPar, DL.putAt, wSetQ, wApp_eq, appO_iL, isLst_iL, wPop_eq, popO_iL, Nat.zero_le, not_true_eq_false, not_false_eq_true, wLc, wipeG, restG, keepD_none, keepD_d, keepD_iL, items_tup, items_lst, wYes, wTTup, wTCons, wTNil]
    exact h
  simp only [wSeq, wSet, wAsg, wExpr, wRet, wIf, wTest, wNotT, wAndT, wOrT, wIfE, w1, w2, wn, wNil, wCons, wVar, varK_iL, varK_d, wC, wLst, wTup, wQ, qVar_eq, qvO_iL, qvO_d, qC, qI, qNeg, qLen, wNext, takesOf, take_al, take_t, takeO_iL, frzsOf, frzOf, datsOf, datOf, on1, on2, put_t, put_al, putO_iL, toD_iL, toD_d, flat_iL, flat_d, lst_nil, lst_one, lst_iE, lst_iD, nil_dT, nil_dL, fList_dL, fList_dT, fTuple_dL, fTuple_dT, fLen_dL, fLen_dT, fSum_dL, fCat_dL, fCat_int, fRep_dL, fRep_int, fSub_int, fMod_int, fDiv_int, fLt_int, fLe_int, fGt_int, fGe_int, fNeg_int, fAbs_int, fMax2_int, fMin2_int, fInt_int, fInt_bool, fSl_dL, fSl_dT, fSl3_dL, fSl3_dT, fEq_int, fNe_int, fEq_dL, fNe_dL, fEq_dT, fNe_dT, items_dL, items_dT, wSl, wSl3, wNo, wPart, wSq_eq, sqK_t, sqK_al, sqO_iL, qIx_eq, qIxK, lstAt_eq, lstO_iL, DL.placeOf, T.get, core_d, re_iL, re_d, T.put, List.getElem?_cons_zero, List.getElem?_cons_succ, List.set_cons_zero, List.set_cons_succ, List.length_cons, List.length_nil, iD_len, iE_len, and_true, true_and, Bool.not_true, Bool.not_false, if_true, if_false, Bool.false_eq_true, decide_eq_true_eq, Bool.not_eq_true', decide_eq_false_iff_not, wFor, wRng1, wRng2, wRng3, wName, endsD, startG, List.map_cons, List.map_nil, List.replicate, List.cons_append, List.nil_append, look, wCall, Option.some.injEq, exists_eq_left', wPar, DL.putAt, wSetQ, wApp_eq, appO_iL, isLst_iL, wPop_eq, popO_iL, Nat.zero_le, not_true_eq_false, not_false_eq_true, wLc, wipeG, restG, keepD_none, keepD_d, keepD_iL, items_tup, items_lst, wYes, wTTup, wTCons, wTNil, re_at]
  refine ⟨by decide, ?_⟩
  refine draw_at (z := some a) (o := .at a q1.T) (p := q1) (c := 3) rfl rfl a3 (by omega) (by decide) (fun k' h => ?_) fun n2 q2 b1 b2 b3 b4 => ?_
  · simp only [wSeq, wSet, wAsg, wExpr, wRet, wIf, wTest, wNotT, wAndT, wOrT, wIfE, w1, w2, wn, wNil, wCons, wVar, varK_iL, varK_d, wC, wLst, wTup, wQ, qVar_eq, qvO_iL, qvO_d, qC, qI, qNeg, qLen, wNext, takesOf, take_al, take_t, takeO_iL, frzsOf, frzOf, datsOf, datOf, on1, on2, put_t, put_al, putO_iL, toD_iL, toD_d, flat_iL, flat_d, lst_nil, lst_one, lst_iE, lst_iD, nil_dT, nil_dL, fList_dL, fList_dT, fTuple_dL, fTuple_dT, fLen_dL, fLen_dT, fSum_dL, fCat_dL, fCat_int, fRep_dL, fRep_int, fSub_int, fMod_int, fDiv_int, fLt_int, fLe_int, fGt_int, fGe_int, fNeg_int, fAbs_int, fMax2_int, fMin2_int, fInt_int, fInt_bool, fSl_dL, fSl_dT, fSl3_dL, fSl3_dT, fEq_int, fNe_int, fEq_dL, fNe_dL, fEq_dT, fNe_dT, items_dL, items_dT, wSl, wSl3, wNo, wPart, wSq_eq, sqK_t, sqK_al, sqO_iL, qIx_eq, qIxK, lstAt_eq, lstO_iL, DL.placeOf, T.get, core_d, re_iL, re_d, T.put, List.getElem?_cons_zero, List.getElem?_cons_succ, List.set_cons_zero, List.set_cons_succ, List.length_cons, List.length_nil, iD_len, iE_len, and_true, true_and, Bool.not_true, Bool.not_false, if_true, if_false, Bool.false_eq_true, decide_eq_true_eq, Bool.not_eq_true', decide_eq_false_iff_not, wFor, wRng1, wRng2, wRng3, wName, endsD, startG, List.map_cons, List.map_nil, List.replicate, List.cons_append, List.nil_append, look, wCall, Option.some.injEq, exists_eq_left', wPar, DL.putAt, wSetQ, wApp_eq, appO_iL, isLst_iL, wPop_eq, popO_iL, Nat.zero_le, not_true_eq_false, not_false_eq_true, wLc, wipeG, restG, keepD_none, keepD_d, keepD_iL, items_tup, items_lst, wYes, wTTup, wTCons, wTNil]
    exact h
  simp only [wSeq, wSet, wAsg, wExpr, wRet, wIf, wTest, wNotT, wAndT, wOrT, wIfE, w1, w2, wn, wNil, wCons, wVar, varK_iL, varK_d, wC, wLst, wTup, wQ, qVar_eq, qvO_iL, qvO_d, qC, qI, qNeg, qLen, wNext, takesOf, take_al, take_t, takeO_iL, frzsOf, frzOf, datsOf, datOf, on1, on2, put_t, put_al, putO_iL, toD_iL, toD_d, flat_iL, flat_d, lst_nil, lst_one, lst_iE, lst_iD, nil_dT, nil_dL, fList_dL, fList_dT, fTuple_dL, fTuple_dT, fLen_dL, fLen_dT, fSum_dL, fCat_dL, fCat_int, fRep_dL, fRep_int, fSub_int, fMod_int, fDiv_int, fLt_int, fLe_int, fGt_int, fGe_int, fNeg_int, fAbs_int, fMax2_int, fMin2_int, fInt_int, fInt_bool, fSl_dL, fSl_dT, fSl3_dL, fSl3_dT, fEq_int, fNe_int, fEq_dL, fNe_dL, fEq_dT, fNe_dT, items_dL, items_dT, wSl, wSl3, wNo, wPart, wSq_eq, sqK_t, sqK_al, sqO_iL, qIx_eq, qIxK, lstAt_eq, lstO_iL, DL.placeOf, T.get, core_d, re_iL, re_d, T.put, List.getElem?_cons_zero, List.getElem?_cons_succ, List.set_cons_zero, List.set_cons_succ, List.length_cons, List.length_nil, iD_len, iE_len, and_true, true_and, Bool.not_true, Bool.not_false, if_true, if_false, Bool.false_eq_true, decide_eq_true_eq, Bool.not_eq_true', decide_eq_false_iff_not, wFor, wRng1, wRng2, wRng3, wName, endsD, startG, List.map_cons, List.map_nil, List.replicate, List.cons_append, List.nil_append, look, wCall, Option.some.injEq, exists_eq_left', wPar, DL.putAt, wSetQ, wApp_eq, appO_iL, isLst_iL, wPop_eq, popO_iL, Nat.zero_le, not_true_eq_false, not_false_eq_true, wLc, wipeG, restG, keepD_none, keepD_d, keepD_iL, items_tup, items_lst, wYes, wTTup, wTCons, wTNil, re_at]
  obtain ⟨n, hn⟩ : ∃ n : Nat, 1 + n1 = (n : Int) := ⟨(1 + n1).toNat, by omega⟩
  rw [hn, Int.toNat_natCast]
  refine ⟨by decide, by decide, ⟨by omega, by omega⟩, ?_⟩
  refine forW_inv (fun i G => ∃ o p' A o6 o7, PenAt (some a) o p' ∧ p'.ok ∧ p'.t ≤ q2.t + 12 * i ∧ A.length = i ∧ (∀ r ∈ A, r.length = n ∧ ∀ x ∈ r, -c ≤ x ∧ x ≤ c) ∧ G = [some o, some (.d (.int most)), some (.d (.int c)), some (.d (.int n)), some (.d (.int (1 + n2))), some (rwT A), o6, o7, none, none])
    (rangeD 0 n) 0 _ ⟨_, q2, [], none, none, rfl, b3, by omega, rfl, fun r hr => (nomatch hr), rfl⟩ (fun i x G hx hI R hR => ?_) (fun G hI => ?_)
  · obtain ⟨hi, rfl⟩ := rangeD_at hx
    obtain ⟨o, p', A, o6, o7, ho, hp', ht', hl, hA, rfl⟩ := hI
    simp only [B__law_ttable_3, wSeq, wSet, wAsg, wExpr, wRet, wIf, wTest, wNotT, wAndT, wOrT, wIfE, w1, w2, wn, wNil, wCons, wVar, varK_iL, varK_d, wC, wLst, wTup, wQ, qVar_eq, qvO_iL, qvO_d, qC, qI, qNeg, qLen, wNext, takesOf, take_al, take_t, takeO_iL, frzsOf, frzOf, datsOf, datOf, on1, on2, put_t, put_al, putO_iL, toD_iL, toD_d, flat_iL, flat_d, lst_nil, lst_one, lst_iE, lst_iD, nil_dT, nil_dL, fList_dL, fList_dT, fTuple_dL, fTuple_dT, fLen_dL, fLen_dT, fSum_dL, fCat_dL, fCat_int, fRep_dL, fRep_int, fSub_int, fMod_int, fDiv_int, fLt_int, fLe_int, fGt_int, fGe_int, fNeg_int, fAbs_int, fMax2_int, fMin2_int, fInt_int, fInt_bool, fSl_dL, fSl_dT, fSl3_dL, fSl3_dT, fEq_int, fNe_int, fEq_dL, fNe_dL, fEq_dT, fNe_dT, items_dL, items_dT, wSl, wSl3, wNo, wPart, wSq_eq, sqK_t, sqK_al, sqO_iL, qIx_eq, qIxK, lstAt_eq, lstO_iL, DL.placeOf, T.get, core_d, re_iL, re_d, T.put, List.getElem?_cons_zero, List.getElem?_cons_succ, List.set_cons_zero, List.set_cons_succ, List.length_cons, List.length_nil, iD_len, iE_len, and_true, true_and, Bool.not_true, Bool.not_false, if_true, if_false, Bool.false_eq_true, decide_eq_true_eq, Bool.not_eq_true', decide_eq_false_iff_not, wFor, wRng1, wRng2, wRng3, wName, endsD, startG, List.map_cons, List.map_nil, List.replicate, List.cons_append, List.nil_append, look, wCall, Option.some.injEq, exists_eq_left', wPar, DL.putAt, wSetQ, wApp_eq, appO_iL, isLst_iL, wPop_eq, popO_iL, Nat.zero_le, not_true_eq_false, not_false_eq_true, wLc, wipeG, restG, keepD_none, keepD_d, keepD_iL, items_tup, items_lst, wYes, wTTup, wTCons, wTNil, Int.toNat_natCast]
    refine ⟨by decide, ⟨by omega, by omega⟩, by rw [rangeD_len]; exact le1000 (by omega), ?_⟩
    refine line_ok (z := some a) (t0 := p'.t) ho hp' (Int.le_refl _) (by omega) h3 h4 fun o3 p3 xs ho3 hp3 ht3 hx1 hx2 => ?_
    simp only [wSeq, wSet, wAsg, wExpr, wRet, wIf, wTest, wNotT, wAndT, wOrT, wIfE, w1, w2, wn, wNil, wCons, wVar, varK_iL, varK_d, wC, wLst, wTup, wQ, qVar_eq, qvO_iL, qvO_d, qC, qI, qNeg, qLen, wNext, takesOf, take_al, take_t, takeO_iL, frzsOf, frzOf, datsOf, datOf, on1, on2, put_t, put_al, putO_iL, toD_iL, toD_d, flat_iL, flat_d, lst_nil, lst_one, lst_iE, lst_iD, nil_dT, nil_dL, fList_dL, fList_dT, fTuple_dL, fTuple_dT, fLen_dL, fLen_dT, fSum_dL, fCat_dL, fCat_int, fRep_dL, fRep_int, fSub_int, fMod_int, fDiv_int, fLt_int, fLe_int, fGt_int, fGe_int, fNeg_int, fAbs_int, fMax2_int, fMin2_int, fInt_int, fInt_bool, fSl_dL, fSl_dT, fSl3_dL, fSl3_dT, fEq_int, fNe_int, fEq_dL, fNe_dL, fEq_dT, fNe_dT, items_dL, items_dT, wSl, wSl3, wNo, wPart, wSq_eq, sqK_t, sqK_al, sqO_iL, qIx_eq, qIxK, lstAt_eq, lstO_iL, DL.placeOf, T.get, core_d, re_iL, re_d, T.put, List.getElem?_cons_zero, List.getElem?_cons_succ, List.set_cons_zero, List.set_cons_succ, List.length_cons, List.length_nil, iD_len, iE_len, and_true, true_and, Bool.not_true, Bool.not_false, if_true, if_false, Bool.false_eq_true, decide_eq_true_eq, Bool.not_eq_true', decide_eq_false_iff_not, wFor, wRng1, wRng2, wRng3, wName, endsD, startG, List.map_cons, List.map_nil, List.replicate, List.cons_append, List.nil_append, look, wCall, Option.some.injEq, exists_eq_left', wPar, DL.putAt, wSetQ, wApp_eq, appO_iL, isLst_iL, wPop_eq, popO_iL, Nat.zero_le, not_true_eq_false, not_false_eq_true, wLc, wipeG, restG, keepD_none, keepD_d, keepD_iL, items_tup, items_lst, wYes, wTTup, wTCons, wTNil, isLst_rwT]
    refine ⟨by decide, le1000 (by omega), ?_⟩
    refine thin_ok (z := some a) (t0 := p3.t) ho3 hp3 (Int.le_refl _) (by omega) h3 h4 hx2 fun o4 p4 ys ho4 hp4 ht4 hy1 hy2 => ?_
    simp only [wSeq, wSet, wAsg, wExpr, wRet, wIf, wTest, wNotT, wAndT, wOrT, wIfE, w1, w2, wn, wNil, wCons, wVar, varK_iL, varK_d, wC, wLst, wTup, wQ, qVar_eq, qvO_iL, qvO_d, qC, qI, qNeg, qLen, wNext, takesOf, take_al, take_t, takeO_iL, frzsOf, frzOf, datsOf, datOf, on1, on2, put_t, put_al, putO_iL, toD_iL, toD_d, flat_iL, flat_d, lst_nil, lst_one, lst_iE, lst_iD, nil_dT, nil_dL, fList_dL, fList_dT, fTuple_dL, fTuple_dT, fLen_dL, fLen_dT, fSum_dL, fCat_dL, fCat_int, fRep_dL, fRep_int, fSub_int, fMod_int, fDiv_int, fLt_int, fLe_int, fGt_int, fGe_int, fNeg_int, fAbs_int, fMax2_int, fMin2_int, fInt_int, fInt_bool, fSl_dL, fSl_dT, fSl3_dL, fSl3_dT, fEq_int, fNe_int, fEq_dL, fNe_dL, fEq_dT, fNe_dT, items_dL, items_dT, wSl, wSl3, wNo, wPart, wSq_eq, sqK_t, sqK_al, sqO_iL, qIx_eq, qIxK, lstAt_eq, lstO_iL, DL.placeOf, T.get, core_d, re_iL, re_d, T.put, List.getElem?_cons_zero, List.getElem?_cons_succ, List.set_cons_zero, List.set_cons_succ, List.length_cons, List.length_nil, iD_len, iE_len, and_true, true_and, Bool.not_true, Bool.not_false, if_true, if_false, Bool.false_eq_true, decide_eq_true_eq, Bool.not_eq_true', decide_eq_false_iff_not, wFor, wRng1, wRng2, wRng3, wName, endsD, startG, List.map_cons, List.map_nil, List.replicate, List.cons_append, List.nil_append, look, wCall, Option.some.injEq, exists_eq_left', wPar, DL.putAt, wSetQ, wApp_eq, appO_iL, isLst_iL, wPop_eq, popO_iL, Nat.zero_le, not_true_eq_false, not_false_eq_true, wLc, wipeG, restG, keepD_none, keepD_d, keepD_iL, items_tup, items_lst, wYes, wTTup, wTCons, wTNil, appO_rwT]
    refine ⟨Nat.lt_of_lt_of_le (show A.length < 1000 by omega) (by decide), ?_⟩
    refine hR _ ⟨o4, p4, A ++ [ys], _, _, ho4, hp4, by omega, by rw [List.length_append, hl]; rfl, fun r hr => ?_, rfl⟩
    · rcases List.mem_append.mp hr with hr | hr
      · exact hA r hr
      · rw [List.mem_singleton.mp hr]
        exact ⟨by omega, hy2⟩
  · obtain ⟨o, p', A, o6, o7, ho, hp', ht', hl, hA, rfl⟩ := hI
    rw [rangeD_len, Nat.zero_add] at hl
    rw [rangeD_len, Nat.zero_add] at ht'
    cases ho
    simp only [varK_rwT, flat_rwT, fTuple_list, wSeq, wSet, wAsg, wExpr, wRet, wIf, wTest, wNotT, wAndT, wOrT, wIfE, w1, w2, wn, wNil, wCons, wVar, varK_iL, varK_d, wC, wLst, wTup, wQ, qVar_eq, qvO_iL, qvO_d, qC, qI, qNeg, qLen, wNext, takesOf, take_al, take_t, takeO_iL, frzsOf, frzOf, datsOf, datOf, on1, on2, put_t, put_al, putO_iL, toD_iL, toD_d, flat_iL, flat_d, lst_nil, lst_one, lst_iE, lst_iD, nil_dT, nil_dL, fList_dL, fList_dT, fTuple_dL, fTuple_dT, fLen_dL, fLen_dT, fSum_dL, fCat_dL, fCat_int, fRep_dL, fRep_int, fSub_int, fMod_int, fDiv_int, fLt_int, fLe_int, fGt_int, fGe_int, fNeg_int, fAbs_int, fMax2_int, fMin2_int, fInt_int, fInt_bool, fSl_dL, fSl_dT, fSl3_dL, fSl3_dT, fEq_int, fNe_int, fEq_dL, fNe_dL, fEq_dT, fNe_dT, items_dL, items_dT, wSl, wSl3, wNo, wPart, wSq_eq, sqK_t, sqK_al, sqO_iL, qIx_eq, qIxK, lstAt_eq, lstO_iL, DL.placeOf, T.get, core_d, re_iL, re_d, T.put, List.getElem?_cons_zero, List.getElem?_cons_succ, List.set_cons_zero, List.set_cons_succ, List.length_cons, List.length_nil, iD_len, iE_len, and_true, true_and, Bool.not_true, Bool.not_false, if_true, if_false, Bool.false_eq_true, decide_eq_true_eq, Bool.not_eq_true', decide_eq_false_iff_not, wFor, wRng1, wRng2, wRng3, wName, endsD, startG, List.map_cons, List.map_nil, List.replicate, List.cons_append, List.nil_append, look, wCall, Option.some.injEq, exists_eq_left', wPar, DL.putAt, wSetQ, wApp_eq, appO_iL, isLst_iL, wPop_eq, popO_iL, Nat.zero_le, not_true_eq_false, not_false_eq_true, wLc, wipeG, restG, keepD_none, keepD_d, keepD_iL, items_tup, items_lst, wYes, wTTup, wTCons, wTNil]
    refine ⟨_, _, rfl, rfl, n, A, p', rfl, by omega, by show (n : Int) ≤ most; omega, ⟨hl, fun r hr => (hA r hr).1, fun r hr => (hA r hr).2⟩, rfl, hp', ?_⟩
    show p'.t ≤ p.t + 1000
    omega
end RT
end
section
set_option autoImplicit false
namespace RT
open PySem PySem.Spec PyProof.Rows L2 DL
/-- what is put in another order: ints or rows -/
inductive It where
  | i (xs : List Int)
  | r (A : List (List Int))
def It.d : It → PyData
  | .i xs => dT xs
  | .r A => .list (A.map dT)
def It.len : It → Nat
  | .i xs => xs.length
  | .r A => A.length
def It.put (x : It) (o : List Nat) : PyData := match x with
  | .i xs => dT (o.map fun k => at0 xs k)
  | .r A => tT (o.map fun k => rowAt A k)
def ordD (o : List Nat) : PyData := dL (o.map fun (k : Nat) => (k : Int))
def S__law_tput : FS := ⟨It × List Nat, fun x => [x.1.d, ordD x.2], fun x => x.2.length ≤ 1000 ∧ ∀ k ∈ x.2, k < x.1.len, fun x r => r = .d (x.1.put x.2)⟩
end RT
end
section
/-! printed by gen.py: what each def reads -/
namespace RT
open PySem PySem.Spec PyProof.Rows L2 DL
def E__law_tput_1 : WE := (wQ (qIx (qVar 0) (qVar 2)))
def W__law_tput : WS := (wRet (wn (wCons (wLc (wSq (wVar 1)) (wName 2) wYes E__law_tput_1 [2]) wNil) (on1 fTuple)))
end RT
end
section
set_option autoImplicit false
namespace RT
open PySem PySem.Spec PyProof.Rows L2 DL
theorem ord_items (o : List Nat) : iD (o.map fun (k : Nat) => (k : Int)) = o.map fun (k : Nat) => PyData.int (k : Int) := by
  unfold iD
  rw [List.map_map]
  rfl
theorem ints_toD (xs : List Int) : (T.lst (xs.map fun v => T.d (.int v))).toD = some (dL xs) := by
  have e : (xs.map fun v => T.d (.int v)) = iE xs := by
    unfold iE iD
    rw [List.map_map]
    rfl
  rw [e]
  exact toD_iL
theorem WK__law_tput : ∀ x, S__law_tput.pre x → W__law_tput (endsD (S__law_tput.post x)) (startG 3 (S__law_tput.args x)) := by
  rintro ⟨x, o⟩ ⟨h1, h2⟩
  have h1 : o.length ≤ 1000 := h1
  cases x with
  | i xs =>
    have h2 : ∀ k ∈ o, k < xs.length := h2
    simp only [W__law_tput, S__law_tput, It.d, ordD, wSeq, wSet, wAsg, wExpr, wRet, wIf, wTest, wNotT, wAndT, wOrT, wIfE, w1, w2, wn, wNil, wCons, wVar, varK_iL, varK_d, wC, wLst, wTup, wQ, qVar_eq, qvO_iL, qvO_d, qC, qI, qNeg, qLen, wNext, takesOf, take_al, take_t, takeO_iL, frzsOf, frzOf, datsOf, datOf, on1, on2, put_t, put_al, putO_iL, toD_iL, toD_d, flat_iL, flat_d, lst_nil, lst_one, lst_iE, lst_iD, nil_dT, nil_dL, fList_dL, fList_dT, fTuple_dL, fTuple_dT, fLen_dL, fLen_dT, fSum_dL, fCat_dL, fCat_int, fRep_dL, fRep_int, fSub_int, fMod_int, fDiv_int, fLt_int, fLe_int, fGt_int, fGe_int, fNeg_int, fAbs_int, fMax2_int, fMin2_int, fInt_int, fInt_bool, fSl_dL, fSl_dT, fSl3_dL, fSl3_dT, fEq_int, fNe_int, fEq_dL, fNe_dL, fEq_dT, fNe_dT, items_dL, items_dT, wSl, wSl3, wNo, wPart, wSq_eq, sqK_t, sqK_al, sqO_iL, qIx_eq, qIxK, lstAt_eq, lstO_iL, DL.placeOf, T.get, core_d, re_iL, re_d, T.put, List.getElem?_cons_zero, List.getElem?_cons_succ, List.set_cons_zero, List.set_cons_succ, List.length_cons, List.length_nil, iD_len, iE_len, and_true, true_and, Bool.not_true, Bool.not_false, if_true, if_false, Bool.false_eq_true, decide_eq_true_eq, Bool.not_eq_true', decide_eq_false_iff_not, wFor, wRng1, wRng2, wRng3, wName, endsD, startG, List.map_cons, List.map_nil, List.replicate, List.cons_append, List.nil_append, look, wCall, Option.some.injEq, exists_eq_left', wPar, DL.putAt, wSetQ, wApp_eq, appO_iL, isLst_iL, wPop_eq, popO_iL, Nat.zero_le, not_true_eq_false, not_false_eq_true, wLc, wipeG, restG, toD_iLL, varK_iLL, qvO_iLL, lstO_iLL, re_iLL, lst_iLL, items_tT, items_tL, takeO_iLL, putO_iLL, sqO_iLL, keepD_iLL, wZp, keepD_none, keepD_d, keepD_iL, items_tup, items_lst, wYes, wTTup, wTCons, wTNil, List.length_map]
    refine ⟨le1000 h1, ?_⟩
    rw [ord_items]
    refine lcW_rowsS (fun G => G = [some (.d (dT xs)), some (.d (dL (o.map fun (k : Nat) => (k : Int)))), none]) (fun (k : Nat) => PyData.int (k : Int)) (fun k => .d (.int (at0 xs k))) o rfl (fun k hk G hG R R2 hR => ?_) (fun G hG => ?_)
    · subst hG
      simp only [E__law_tput_1, wSeq, wSet, wAsg, wExpr, wRet, wIf, wTest, wNotT, wAndT, wOrT, wIfE, w1, w2, wn, wNil, wCons, wVar, varK_iL, varK_d, wC, wLst, wTup, wQ, qVar_eq, qvO_iL, qvO_d, qC, qI, qNeg, qLen, wNext, takesOf, take_al, take_t, takeO_iL, frzsOf, frzOf, datsOf, datOf, on1, on2, put_t, put_al, putO_iL, toD_iL, toD_d, flat_iL, flat_d, lst_nil, lst_one, lst_iE, lst_iD, nil_dT, nil_dL, fList_dL, fList_dT, fTuple_dL, fTuple_dT, fLen_dL, fLen_dT, fSum_dL, fCat_dL, fCat_int, fRep_dL, fRep_int, fSub_int, fMod_int, fDiv_int, fLt_int, fLe_int, fGt_int, fGe_int, fNeg_int, fAbs_int, fMax2_int, fMin2_int, fInt_int, fInt_bool, fSl_dL, fSl_dT, fSl3_dL, fSl3_dT, fEq_int, fNe_int, fEq_dL, fNe_dL, fEq_dT, fNe_dT, items_dL, items_dT, wSl, wSl3, wNo, wPart, wSq_eq, sqK_t, sqK_al, sqO_iL, qIx_eq, qIxK, lstAt_eq, lstO_iL, DL.placeOf, T.get, core_d, re_iL, re_d, T.put, List.getElem?_cons_zero, List.getElem?_cons_succ, List.set_cons_zero, List.set_cons_succ, List.length_cons, List.length_nil, iD_len, iE_len, and_true, true_and, Bool.not_true, Bool.not_false, if_true, if_false, Bool.false_eq_true, decide_eq_true_eq, Bool.not_eq_true', decide_eq_false_iff_not, wFor, wRng1, wRng2, wRng3, wName, endsD, startG, List.map_cons, List.map_nil, List.replicate, List.cons_append, List.nil_append, look, wCall, Option.some.injEq, exists_eq_left', wPar, DL.putAt, wSetQ, wApp_eq, appO_iL, isLst_iL, wPop_eq, popO_iL, Nat.zero_le, not_true_eq_false, not_false_eq_true, wLc, wipeG, restG, toD_iLL, varK_iLL, qvO_iLL, lstO_iLL, re_iLL, lst_iLL, items_tT, items_tL, takeO_iLL, putO_iLL, sqO_iLL, keepD_iLL, wZp, keepD_none, keepD_d, keepD_iL, items_tup, items_lst, wYes, wTTup, wTCons, wTNil, atI_at (rfl : (k : Int) = (k : Int)) (h2 k hk)]
      exact ⟨by decide, hR _ rfl⟩
    · subst hG
      rw [map_iE']
      simp only [wSeq, wSet, wAsg, wExpr, wRet, wIf, wTest, wNotT, wAndT, wOrT, wIfE, w1, w2, wn, wNil, wCons, wVar, varK_iL, varK_d, wC, wLst, wTup, wQ, qVar_eq, qvO_iL, qvO_d, qC, qI, qNeg, qLen, wNext, takesOf, take_al, take_t, takeO_iL, frzsOf, frzOf, datsOf, datOf, on1, on2, put_t, put_al, putO_iL, toD_iL, toD_d, flat_iL, flat_d, lst_nil, lst_one, lst_iE, lst_iD, nil_dT, nil_dL, fList_dL, fList_dT, fTuple_dL, fTuple_dT, fLen_dL, fLen_dT, fSum_dL, fCat_dL, fCat_int, fRep_dL, fRep_int, fSub_int, fMod_int, fDiv_int, fLt_int, fLe_int, fGt_int, fGe_int, fNeg_int, fAbs_int, fMax2_int, fMin2_int, fInt_int, fInt_bool, fSl_dL, fSl_dT, fSl3_dL, fSl3_dT, fEq_int, fNe_int, fEq_dL, fNe_dL, fEq_dT, fNe_dT, items_dL, items_dT, wSl, wSl3, wNo, wPart, wSq_eq, sqK_t, sqK_al, sqO_iL, qIx_eq, qIxK, lstAt_eq, lstO_iL, DL.placeOf, T.get, core_d, re_iL, re_d, T.put, List.getElem?_cons_zero, List.getElem?_cons_succ, List.set_cons_zero, List.set_cons_succ, List.length_cons, List.length_nil, iD_len, iE_len, and_true, true_and, Bool.not_true, Bool.not_false, if_true, if_false, Bool.false_eq_true, decide_eq_true_eq, Bool.not_eq_true', decide_eq_false_iff_not, wFor, wRng1, wRng2, wRng3, wName, endsD, startG, List.map_cons, List.map_nil, List.replicate, List.cons_append, List.nil_append, look, wCall, Option.some.injEq, exists_eq_left', wPar, DL.putAt, wSetQ, wApp_eq, appO_iL, isLst_iL, wPop_eq, popO_iL, Nat.zero_le, not_true_eq_false, not_false_eq_true, wLc, wipeG, restG, toD_iLL, varK_iLL, qvO_iLL, lstO_iLL, re_iLL, lst_iLL, items_tT, items_tL, takeO_iLL, putO_iLL, sqO_iLL, keepD_iLL, wZp, keepD_none, keepD_d, keepD_iL, items_tup, items_lst, wYes, wTTup, wTCons, wTNil]
      rfl
  | r A =>
    have h2 : ∀ k ∈ o, k < A.length := h2
    simp only [W__law_tput, S__law_tput, It.d, ordD, wSeq, wSet, wAsg, wExpr, wRet, wIf, wTest, wNotT, wAndT, wOrT, wIfE, w1, w2, wn, wNil, wCons, wVar, varK_iL, varK_d, wC, wLst, wTup, wQ, qVar_eq, qvO_iL, qvO_d, qC, qI, qNeg, qLen, wNext, takesOf, take_al, take_t, takeO_iL, frzsOf, frzOf, datsOf, datOf, on1, on2, put_t, put_al, putO_iL, toD_iL, toD_d, flat_iL, flat_d, lst_nil, lst_one, lst_iE, lst_iD, nil_dT, nil_dL, fList_dL, fList_dT, fTuple_dL, fTuple_dT, fLen_dL, fLen_dT, fSum_dL, fCat_dL, fCat_int, fRep_dL, fRep_int, fSub_int, fMod_int, fDiv_int, fLt_int, fLe_int, fGt_int, fGe_int, fNeg_int, fAbs_int, fMax2_int, fMin2_int, fInt_int, fInt_bool, fSl_dL, fSl_dT, fSl3_dL, fSl3_dT, fEq_int, fNe_int, fEq_dL, fNe_dL, fEq_dT, fNe_dT, items_dL, items_dT, wSl, wSl3, wNo, wPart, wSq_eq, sqK_t, sqK_al, sqO_iL, qIx_eq, qIxK, lstAt_eq, lstO_iL, DL.placeOf, T.get, core_d, re_iL, re_d, T.put, List.getElem?_cons_zero, List.getElem?_cons_succ, List.set_cons_zero, List.set_cons_succ, List.length_cons, List.length_nil, iD_len, iE_len, and_true, true_and, Bool.not_true, Bool.not_false, if_true, if_false, Bool.false_eq_true, decide_eq_true_eq, Bool.not_eq_true', decide_eq_false_iff_not, wFor, wRng1, wRng2, wRng3, wName, endsD, startG, List.map_cons, List.map_nil, List.replicate, List.cons_append, List.nil_append, look, wCall, Option.some.injEq, exists_eq_left', wPar, DL.putAt, wSetQ, wApp_eq, appO_iL, isLst_iL, wPop_eq, popO_iL, Nat.zero_le, not_true_eq_false, not_false_eq_true, wLc, wipeG, restG, toD_iLL, varK_iLL, qvO_iLL, lstO_iLL, re_iLL, lst_iLL, items_tT, items_tL, takeO_iLL, putO_iLL, sqO_iLL, keepD_iLL, wZp, keepD_none, keepD_d, keepD_iL, items_tup, items_lst, wYes, wTTup, wTCons, wTNil, List.length_map]
    refine ⟨le1000 h1, ?_⟩
    rw [ord_items]
    refine lcW_rowsS (fun G => G = [some (.d (.list (A.map dT))), some (.d (dL (o.map fun (k : Nat) => (k : Int)))), none]) (fun (k : Nat) => PyData.int (k : Int)) (fun k => .d (dT (rowAt A k))) o rfl (fun k hk G hG R R2 hR => ?_) (fun G hG => ?_)
    · subst hG
      simp only [E__law_tput_1, wSeq, wSet, wAsg, wExpr, wRet, wIf, wTest, wNotT, wAndT, wOrT, wIfE, w1, w2, wn, wNil, wCons, wVar, varK_iL, varK_d, wC, wLst, wTup, wQ, qVar_eq, qvO_iL, qvO_d, qC, qI, qNeg, qLen, wNext, takesOf, take_al, take_t, takeO_iL, frzsOf, frzOf, datsOf, datOf, on1, on2, put_t, put_al, putO_iL, toD_iL, toD_d, flat_iL, flat_d, lst_nil, lst_one, lst_iE, lst_iD, nil_dT, nil_dL, fList_dL, fList_dT, fTuple_dL, fTuple_dT, fLen_dL, fLen_dT, fSum_dL, fCat_dL, fCat_int, fRep_dL, fRep_int, fSub_int, fMod_int, fDiv_int, fLt_int, fLe_int, fGt_int, fGe_int, fNeg_int, fAbs_int, fMax2_int, fMin2_int, fInt_int, fInt_bool, fSl_dL, fSl_dT, fSl3_dL, fSl3_dT, fEq_int, fNe_int, fEq_dL, fNe_dL, fEq_dT, fNe_dT, items_dL, items_dT, wSl, wSl3, wNo, wPart, wSq_eq, sqK_t, sqK_al, sqO_iL, qIx_eq, qIxK, lstAt_eq, lstO_iL, DL.placeOf, T.get, core_d, re_iL, re_d, T.put, List.getElem?_cons_zero, List.getElem?_cons_succ, List.set_cons_zero, List.set_cons_succ, List.length_cons, List.length_nil, iD_len, iE_len, and_true, true_and, Bool.not_true, Bool.not_false, if_true, if_false, Bool.false_eq_true, decide_eq_true_eq, Bool.not_eq_true', decide_eq_false_iff_not, wFor, wRng1, wRng2, wRng3, wName, endsD, startG, List.map_cons, List.map_nil, List.replicate, List.cons_append, List.nil_append, look, wCall, Option.some.injEq, exists_eq_left', wPar, DL.putAt, wSetQ, wApp_eq, appO_iL, isLst_iL, wPop_eq, popO_iL, Nat.zero_le, not_true_eq_false, not_false_eq_true, wLc, wipeG, restG, toD_iLL, varK_iLL, qvO_iLL, lstO_iLL, re_iLL, lst_iLL, items_tT, items_tL, takeO_iLL, putO_iLL, sqO_iLL, keepD_iLL, wZp, keepD_none, keepD_d, keepD_iL, items_tup, items_lst, wYes, wTTup, wTCons, wTNil, row_dT (h2 k hk)]
      exact ⟨by decide, hR _ rfl⟩
    · subst hG
      simp only [tup_rows, wSeq, wSet, wAsg, wExpr, wRet, wIf, wTest, wNotT, wAndT, wOrT, wIfE, w1, w2, wn, wNil, wCons, wVar, varK_iL, varK_d, wC, wLst, wTup, wQ, qVar_eq, qvO_iL, qvO_d, qC, qI, qNeg, qLen, wNext, takesOf, take_al, take_t, takeO_iL, frzsOf, frzOf, datsOf, datOf, on1, on2, put_t, put_al, putO_iL, toD_iL, toD_d, flat_iL, flat_d, lst_nil, lst_one, lst_iE, lst_iD, nil_dT, nil_dL, fList_dL, fList_dT, fTuple_dL, fTuple_dT, fLen_dL, fLen_dT, fSum_dL, fCat_dL, fCat_int, fRep_dL, fRep_int, fSub_int, fMod_int, fDiv_int, fLt_int, fLe_int, fGt_int, fGe_int, fNeg_int, fAbs_int, fMax2_int, fMin2_int, fInt_int, fInt_bool, fSl_dL, fSl_dT, fSl3_dL, fSl3_dT, fEq_int, fNe_int, fEq_dL, fNe_dL, fEq_dT, fNe_dT, items_dL, items_dT, wSl, wSl3, wNo, wPart, wSq_eq, sqK_t, sqK_al, sqO_iL, qIx_eq, qIxK, lstAt_eq, lstO_iL, DL.placeOf, T.get, core_d, re_iL, re_d, T.put, List.getElem?_cons_zero, List.getElem?_cons_succ, List.set_cons_zero, List.set_cons_succ, List.length_cons, List.length_nil, iD_len, iE_len, and_true, true_and, Bool.not_true, Bool.not_false, if_true, if_false, Bool.false_eq_true, decide_eq_true_eq, Bool.not_eq_true', decide_eq_false_iff_not, wFor, wRng1, wRng2, wRng3, wName, endsD, startG, List.map_cons, List.map_nil, List.replicate, List.cons_append, List.nil_append, look, wCall, Option.some.injEq, exists_eq_left', wPar, DL.putAt, wSetQ, wApp_eq, appO_iL, isLst_iL, wPop_eq, popO_iL, Nat.zero_le, not_true_eq_false, not_false_eq_true, wLc, wipeG, restG, toD_iLL, varK_iLL, qvO_iLL, lstO_iLL, re_iLL, lst_iLL, items_tT, items_tL, takeO_iLL, putO_iLL, sqO_iLL, keepD_iLL, wZp, keepD_none, keepD_d, keepD_iL, items_tup, items_lst, wYes, wTTup, wTCons, wTNil, fTuple_list]
      rfl
end RT
end
section
set_option autoImplicit false
/-! MX: sums; powers of tables; their traces tell the own polynomial. No program in sight. -/
namespace RT
open DL
def SS : Nat → (Nat → Int) → Int
  | 0, _ => 0
  | n + 1, f => SS n f + f n
theorem SS_congr {n : Nat} {f g : Nat → Int} (h : ∀ i, i < n → f i = g i) : SS n f = SS n g := by
  induction n with
  | zero => rfl
  | succ n ih => rw [SS, SS, ih fun i hi => h i (by omega), h n (by omega)]
theorem SS_add (n : Nat) (f g : Nat → Int) : SS n (fun i => f i + g i) = SS n f + SS n g := by
  induction n with
  | zero => rfl
  | succ n ih =>
    rw [SS, SS, SS, ih]
    omega
theorem SS_mul (n : Nat) (c : Int) (f : Nat → Int) : SS n (fun i => c * f i) = c * SS n f := by
  induction n with
  | zero => rw [SS, SS, Int.mul_zero]
  | succ n ih => rw [SS, SS, ih, Int.mul_add]
theorem SS_mulr (n : Nat) (c : Int) (f : Nat → Int) : SS n (fun i => f i * c) = SS n f * c := by
  rw [Int.mul_comm, ← SS_mul]
  exact SS_congr fun i _ => Int.mul_comm _ _
theorem SS_zero (n : Nat) : SS n (fun _ => 0) = 0 := by
  induction n with
  | zero => rfl
  | succ n ih => rw [SS, ih]; rfl
theorem SS_swap (n m : Nat) (f : Nat → Nat → Int) : SS n (fun i => SS m (fun j => f i j)) = SS m (fun j => SS n (fun i => f i j)) := by
  induction n with
  | zero => rw [SS]; exact (SS_zero m).symm
  | succ n ih =>
    rw [SS, ih, ← SS_add]
    exact SS_congr fun j _ => rfl
/-- one term alone -/
theorem SS_one {n i : Nat} (h : i < n) (f : Nat → Int) : SS n (fun j => if i = j then f j else 0) = f i := by
  induction n with
  | zero => omega
  | succ n ih =>
    rw [SS]
    by_cases e : i = n
    · subst e
      rw [if_pos rfl]
      have : SS i (fun j => if i = j then f j else 0) = SS i (fun _ => 0) := SS_congr fun j hj => if_neg (by omega)
      rw [this, SS_zero]
      omega
    · rw [if_neg e, ih (by omega)]
      omega
theorem SS_list (n : Nat) (f : Nat → Int) : ((List.range n).map f).sum = SS n f := by
  induction n with
  | zero => rfl
  | succ n ih =>
    rw [List.range_succ, List.map_append, List.sum_append, ih, SS]
    simp
/-- put in another order -/
theorem SS_perm {n : Nat} {o : List Nat} (h : o.Perm (List.range n)) (f : Nat → Int) : SS n (fun i => f (o[i]?.getD 0)) = SS n f := by
  have hl : o.length = n := by rw [h.length_eq, List.length_range]
  have hs : ∀ {a b : List Int}, a.Perm b → a.sum = b.sum := by
    intro a b h
    induction h with
    | nil => rfl
    | cons x _ ih => rw [List.sum_cons, List.sum_cons, ih]
    | swap x y l =>
      simp only [List.sum_cons]
      omega
    | trans _ _ h1 h2 => rw [h1, h2]
  rw [← SS_list n f, ← hs (h.map f), ← SS_list]
  congr 1
  refine List.ext_getElem? fun i => ?_
  rw [List.getElem?_map, List.getElem?_map]
  by_cases hi : i < n
  · rw [List.getElem?_range hi, List.getElem?_eq_getElem (by omega)]
    simp only [Option.map_some]
    rw [List.getElem?_eq_getElem (by omega)]
    rfl
  · rw [List.getElem?_eq_none (by rw [List.length_range]; omega), List.getElem?_eq_none (by omega)]
    rfl
theorem dot_SS : ∀ {n : Nat} {a b : List Int}, a.length = n → b.length = n → dotP a b = SS n fun k => at0 a k * at0 b k := by
  intro n a b ha hb
  rw [← SS_list]
  unfold dotP
  congr 1
  refine List.ext_getElem? fun i => ?_
  rw [List.getElem?_zipWith, List.getElem?_map]
  by_cases hi : i < n
  · rw [List.getElem?_range hi, at0_some (show i < a.length by omega), at0_some (show i < b.length by omega)]
    rfl
  · rw [List.getElem?_eq_none (l := a) (by omega), List.getElem?_eq_none (l := List.range n) (by rw [List.length_range]; omega)]
    rfl
abbrev ent (A : List (List Int)) (i j : Nat) : Int := at0 (rowAt A i) j
/-- powers -/
def pw (n : Nat) (A : Nat → Nat → Int) : Nat → Nat → Nat → Int
  | 0, i, j => if i = j then 1 else 0
  | k + 1, i, j => SS n fun l => A i l * pw n A k l j
theorem pw_one {n : Nat} {A : Nat → Nat → Int} {i j : Nat} (hj : j < n) : pw n A 1 i j = A i j := by
  rw [pw]
  have : SS n (fun l => A i l * pw n A 0 l j) = SS n (fun l => if j = l then A i l else 0) := SS_congr fun l _ => by
    rw [pw]
    by_cases e : l = j
    · rw [if_pos e, if_pos e.symm, Int.mul_one]
    · rw [if_neg e, if_neg fun z => e z.symm, Int.mul_zero]
  rw [this, SS_one hj]
theorem pw_right {n : Nat} {A : Nat → Nat → Int} : ∀ (k i j : Nat), i < n → j < n → pw n A (k + 1) i j = SS n fun l => pw n A k i l * A l j
  | 0, i, j, hi, hj => by
    rw [pw_one hj]
    have : SS n (fun l => pw n A 0 i l * A l j) = SS n (fun l => if i = l then A l j else 0) := SS_congr fun l _ => by
      rw [pw]
      by_cases e : i = l
      · rw [if_pos e, if_pos e, Int.one_mul]
      · rw [if_neg e, if_neg e, Int.zero_mul]
    rw [this, SS_one hi]
  | k + 1, i, j, hi, hj => by
    rw [pw]
    have e1 : SS n (fun l => A i l * pw n A (k + 1) l j) = SS n (fun l => SS n fun m => A i l * (pw n A k l m * A m j)) := SS_congr fun l hl => by
      rw [pw_right k l j hl hj, SS_mul]
    rw [e1, SS_swap]
    refine SS_congr fun m _ => ?_
    rw [pw, ← SS_mulr]
    exact SS_congr fun l _ => (Int.mul_assoc ..).symm
def trc (n : Nat) (A : Nat → Nat → Int) (k : Nat) : Int := SS n fun i => pw n A k i i
/-- the numbers of the own polynomial by the traces -/
def cS (t : Nat → Int) : Nat → List Int
  | 0 => [1]
  | m + 1 => cS t m ++ [0 - (SS (m + 1) fun k => at0 (cS t m) k * t (m + 1 - k)).fdiv ((m : Int) + 1)]
theorem cS_len (t : Nat → Int) : ∀ m, (cS t m).length = m + 1
  | 0 => rfl
  | m + 1 => by
    rw [cS, List.length_append, cS_len t m]
    rfl
theorem cS_congr {t u : Nat → Int} : ∀ m, (∀ k, 1 ≤ k → k ≤ m → t k = u k) → cS t m = cS u m
  | 0, _ => rfl
  | m + 1, h => by
    have ih := cS_congr (t := t) (u := u) m fun k h1 h2 => h k h1 (by omega)
    rw [cS, cS, ih]
    congr 4
    exact SS_congr fun k hk => by rw [h _ (by omega) (by omega)]
/-! what own_poly computes, by the traces -/
def sqT (n : Nat) (A : List (List Int)) : Prop := A.length = n ∧ ∀ r ∈ A, r.length = n
theorem sqT.row {n : Nat} {A : List (List Int)} (h : sqT n A) {i : Nat} (hi : i < n) : (rowAt A i).length = n := h.2 _ (rowAt_mem (by rw [h.1]; exact hi))
theorem rowAt_map {α : Type} {f : α → List Int} {l : List α} {i : Nat} {a : α} (h : l[i]? = some a) : rowAt (l.map f) i = f a := by
  unfold rowAt
  rw [List.getElem?_map, h]
  rfl
theorem at0_mapR {α : Type} {f : α → Int} {l : List α} {i : Nat} {a : α} (h : l[i]? = some a) : at0 (l.map f) i = f a := by
  unfold at0
  rw [List.getElem?_map, h]
  rfl
theorem col_at {M : List (List Int)} {i k : Nat} (h : k < M.length) : at0 (M.map fun r => at0 r i) k = ent M k i := at0_mapR (rowAt_get h)
theorem mulT_ent {n : Nat} {A M : List (List Int)} (hA : sqT n A) (hM : sqT n M) {i j : Nat} (hi : i < n) (hj : j < n) : ent (mulT A M) i j = SS n fun k => ent A i k * ent M k j := by
  unfold ent mulT
  have hiA : i < A.length := by rw [hA.1]; exact hi
  rw [rowAt_map (rowAt_get hiA)]
  have hc : (colsT M)[j]? = some (M.map fun r => at0 r j) := by
    unfold colsT
    rw [List.getElem?_map, List.getElem?_range (by rw [hM.1]; exact hj)]
    rfl
  rw [at0_mapR hc, dot_SS (hA.row hi) (by rw [List.length_map, hM.1])]
  exact SS_congr fun k hk => by rw [col_at (by rw [hM.1]; exact hk)]
theorem trT_SS {n : Nat} {A M : List (List Int)} (hA : sqT n A) (hM : sqT n M) : trT A M = SS n fun i => SS n fun k => ent A i k * ent M k i := by
  unfold trT
  rw [hA.1, SS_list]
  refine SS_congr fun i hi => ?_
  rw [dot_SS (hA.row hi) (by rw [List.length_map, hM.1])]
  exact SS_congr fun k hk => by rw [col_at (by rw [hM.1]; exact hk)]
theorem flS_sq {n : Nat} {A : List (List Int)} (hA : sqT n A) : ∀ m, sqT n (flS A m).1
  | 0 => by
    refine ⟨by rw [flS, List.length_map, hA.1], fun r hr => ?_⟩
    rw [flS] at hr
    obtain ⟨_, _, rfl⟩ := List.mem_map.mp hr
    rw [List.length_replicate, hA.1]
  | m + 1 => by
    have ih := flS_sq hA m
    have hl : (mulT A (flS A m).1).length = n := by rw [mulT_len, hA.1]
    have hsq : ∀ r ∈ mulT A (flS A m).1, r.length = (mulT A (flS A m).1).length := fun r hr => by rw [mulT_row hr, ih.1, hl]
    refine ⟨by rw [flS, diagS_len, hl], fun r hr => ?_⟩
    rw [flS] at hr
    obtain ⟨i, hi, e⟩ := List.getElem_of_mem hr
    have hi' : i < n := by rw [diagS_len, hl] at hi; exact hi
    have := (diagS_at (lastI (flS A m).2) A.length 0 (mulT A (flS A m).1) i i hsq (by rw [hl, hA.1]; omega) (by rw [hl]; exact hi') (by rw [hl]; exact hi')).2
    rw [← e, ← hl, ← this]
    unfold rowAt
    rw [List.getElem?_eq_getElem hi]
    rfl
theorem flS_ent {n : Nat} {A : List (List Int)} (hA : sqT n A) {i j : Nat} (hi : i < n) (hj : j < n) (m : Nat) : ent (flS A (m + 1)).1 i j = (SS n fun k => ent A i k * ent (flS A m).1 k j) + (if i = j then lastI (flS A m).2 else 0) := by
  have ih := flS_sq hA m
  have hl : (mulT A (flS A m).1).length = n := by rw [mulT_len, hA.1]
  have hsq : ∀ r ∈ mulT A (flS A m).1, r.length = (mulT A (flS A m).1).length := fun r hr => by rw [mulT_row hr, ih.1, hl]
  have := (diagS_at (lastI (flS A m).2) A.length 0 (mulT A (flS A m).1) i j hsq (by rw [hl, hA.1]; omega) (by rw [hl]; exact hi) (by rw [hl]; exact hj)).1
  unfold ent
  rw [flS, this]
  have e := mulT_ent hA ih hi hj
  unfold ent at e
  rw [e]
  by_cases h : i = j
  · rw [if_pos h, if_pos ⟨h, by omega, by rw [hA.1]; omega⟩]
  · rw [if_neg h, if_neg fun z => h z.1]
theorem flS_pw {n : Nat} {A : List (List Int)} (hA : sqT n A) : ∀ m, (flS A m).2.length = m + 1 ∧ (∀ i j, i < n → j < n → ent (flS A m).1 i j = SS m fun k => at0 (flS A m).2 k * pw n (ent A) (m - 1 - k) i j)
  | 0 => by
    refine ⟨rfl, fun i j hi hj => ?_⟩
    rw [SS, flS]
    have : i < A.length := by rw [hA.1]; exact hi
    unfold ent
    rw [rowAt_map (rowAt_get this)]
    unfold at0
    rw [List.getElem?_replicate]
    split <;> rfl
  | m + 1 => by
    obtain ⟨h1, h2⟩ := flS_pw hA m
    have e : (flS A (m + 1)).2 = (flS A m).2 ++ [0 - (trT A (flS A (m + 1)).1).fdiv ((m : Int) + 1)] := rfl
    refine ⟨by rw [e, List.length_append, h1]; rfl, fun i j hi hj => ?_⟩
    rw [flS_ent hA hi hj, SS]
    have hlast : lastI (flS A m).2 = at0 (flS A m).2 m := by
      unfold lastI
      rw [h1, Nat.add_sub_cancel]
    congr 1
    · have e1 : (SS n fun k => ent A i k * ent (flS A m).1 k j) = SS n fun k => SS m fun l => at0 (flS A m).2 l * (ent A i k * pw n (ent A) (m - 1 - l) k j) := SS_congr fun k hk => by
        rw [h2 k j hk hj, ← SS_mul]
        exact SS_congr fun l _ => Int.mul_left_comm ..
      rw [e1, SS_swap]
      refine SS_congr fun l hl => ?_
      rw [SS_mul, e, at0_app_l (by omega), show m + 1 - 1 - l = (m - 1 - l) + 1 by omega, pw]
    · rw [e, at0_app_l (by omega), hlast, show m + 1 - 1 - m = 0 by omega, pw]
      by_cases h : i = j
      · rw [if_pos h, if_pos h, Int.mul_one]
      · rw [if_neg h, if_neg h, Int.mul_zero]
theorem flS_cS {n : Nat} {A : List (List Int)} (hA : sqT n A) : ∀ m, (flS A m).2 = cS (trc n (ent A)) m
  | 0 => rfl
  | m + 1 => by
    have e : (flS A (m + 1)).2 = (flS A m).2 ++ [0 - (trT A (flS A (m + 1)).1).fdiv ((m : Int) + 1)] := rfl
    rw [e, cS, ← flS_cS hA m]
    congr 4
    obtain ⟨h1, _⟩ := flS_pw hA m
    obtain ⟨_, h2⟩ := flS_pw hA (m + 1)
    rw [trT_SS hA (flS_sq hA _)]
    have e1 : (SS n fun i => SS n fun k => ent A i k * ent (flS A (m + 1)).1 k i) = SS n fun i => SS (m + 1) fun l => at0 (flS A m).2 l * pw n (ent A) (m + 1 - l) i i := SS_congr fun i hi => by
      have e2 : (SS n fun k => ent A i k * ent (flS A (m + 1)).1 k i) = SS n fun k => SS (m + 1) fun l => at0 (flS A m).2 l * (ent A i k * pw n (ent A) (m - l) k i) := SS_congr fun k hk => by
        rw [h2 k i hk hi, ← SS_mul]
        refine SS_congr fun l hl => ?_
        rw [e, at0_app_l (by omega), show m + 1 - 1 - l = m - l by omega]
        exact Int.mul_left_comm ..
      rw [e2, SS_swap]
      refine SS_congr fun l hl => ?_
      rw [SS_mul, show m + 1 - l = (m - l) + 1 by omega, pw]
    rw [e1, SS_swap]
    refine SS_congr fun l _ => ?_
    rw [SS_mul]
    rfl
theorem own_congr {n : Nat} {A B : List (List Int)} (hA : sqT n A) (hB : sqT n B) (h : ∀ k, 1 ≤ k → k ≤ n → trc n (ent A) k = trc n (ent B) k) : ownT A = ownT B := by
  unfold ownT
  rw [flS_cS hA, flS_cS hB, hA.1, hB.1, cS_congr n h]
/-! what row_of's numbers are -/
theorem carry_at {n : Nat} {A : List (List Int)} (hA : sqT n A) {v : List Int} (hv : v.length = n) {i : Nat} (hi : i < n) : at0 (carryT A v) i = SS n fun k => ent A i k * at0 v k := by
  unfold carryT
  rw [at0_mapR (rowAt_get (by rw [hA.1]; exact hi)), dot_SS (hA.row hi) hv]
theorem rw_at {n : Nat} {A : List (List Int)} (hA : sqT n A) {b w : List Int} (hb : b.length = n) : ∀ k, ∀ i, i < n → at0 (rwS A b w k).1 i = SS n fun j => pw n (ent A) k i j * at0 b j
  | 0, i, hi => by
    rw [rwS]
    have : SS n (fun j => pw n (ent A) 0 i j * at0 b j) = SS n (fun j => if i = j then at0 b j else 0) := SS_congr fun j _ => by
      rw [pw]
      by_cases e : i = j
      · rw [if_pos e, if_pos e, Int.one_mul]
      · rw [if_neg e, if_neg e, Int.zero_mul]
    rw [this, SS_one hi]
  | k + 1, i, hi => by
    have ih := rw_at hA (w := w) hb k
    rw [rwS, carry_at hA (by rw [rw_len1 A b w (by rw [hb, hA.1]), hA.1]) hi]
    have e1 : (SS n fun l => ent A i l * at0 (rwS A b w k).1 l) = SS n fun l => SS n fun j => ent A i l * pw n (ent A) k l j * at0 b j := SS_congr fun l hl => by
      rw [ih l hl, ← SS_mul]
      exact SS_congr fun j _ => (Int.mul_assoc ..).symm
    rw [e1, SS_swap]
    refine SS_congr fun j _ => ?_
    rw [SS_mulr, pw]
def rwN (n : Nat) (A : Nat → Nat → Int) (b w : Nat → Int) (k : Nat) : Int := SS n fun i => w i * SS n fun j => pw n A k i j * b j
theorem rw_list {n : Nat} {A : List (List Int)} (hA : sqT n A) {b w : List Int} (hb : b.length = n) (hw : w.length = n) : ∀ m, (rwS A b w m).2 = (List.range m).map (rwN n (ent A) (at0 b) (at0 w))
  | 0 => rfl
  | m + 1 => by
    show (rwS A b w m).2 ++ [dotP w (rwS A b w m).1] = _
    rw [rw_list hA hb hw m, List.range_succ, List.map_append]
    congr 1
    rw [dot_SS hw (by rw [rw_len1 A b w (by rw [hb, hA.1]), hA.1])]
    show [_] = [_]
    congr 1
    unfold rwN
    exact SS_congr fun i hi => by rw [rw_at hA hb m i hi]
/-! turned over -/
theorem pw_congr {n : Nat} {A B : Nat → Nat → Int} (h : ∀ i j, i < n → j < n → A i j = B i j) : ∀ k i j, i < n → j < n → pw n A k i j = pw n B k i j
  | 0, _, _, _, _ => rfl
  | k + 1, i, j, hi, hj => by
    rw [pw, pw]
    exact SS_congr fun l hl => by rw [h i l hi hl, pw_congr h k l j hl hj]
theorem pw_turn {n : Nat} {A B : Nat → Nat → Int} (h : ∀ i j, i < n → j < n → B i j = A j i) : ∀ k i j, i < n → j < n → pw n B k i j = pw n A k j i
  | 0, i, j, hi, hj => by
    rw [pw, pw]
    by_cases e : i = j
    · rw [if_pos e, if_pos e.symm]
    · rw [if_neg e, if_neg fun z => e z.symm]
  | k + 1, i, j, hi, hj => by
    rw [pw, pw_right k j i hj hi]
    exact SS_congr fun l hl => by rw [h i l hi hl, pw_turn h k l j hl hj, Int.mul_comm]
theorem turn_ent {n : Nat} {A : List (List Int)} (hA : sqT n A) {i j : Nat} (hi : i < n) (hj : j < n) : ent (turnT A) i j = ent A j i := by
  have hc : rowAt (turnT A) i = A.map fun r => at0 r i := by
    unfold turnT
    exact rowAt_map (List.getElem?_range (by rw [hA.1]; exact hi))
  unfold ent
  rw [hc]
  exact col_at (by rw [hA.1]; exact hj)
theorem turn_sq {n : Nat} {A : List (List Int)} (hA : sqT n A) : sqT n (turnT A) := ⟨by rw [turn_len, hA.1], fun r hr => by rw [turn_row hr, hA.1]⟩
theorem own_turn {n : Nat} {A : List (List Int)} (hA : sqT n A) : ownT (turnT A) = ownT A := own_congr (turn_sq hA) hA fun k _ _ => by
  unfold trc
  exact SS_congr fun i hi => pw_turn (fun i j hi hj => turn_ent hA hi hj) k i i hi hi
theorem rw_turn {n : Nat} {A : List (List Int)} (hA : sqT n A) {b w : List Int} (hb : b.length = n) (hw : w.length = n) (m : Nat) : (rwS (turnT A) w b m).2 = (rwS A b w m).2 := by
  rw [rw_list (turn_sq hA) hw hb, rw_list hA hb hw]
  refine List.map_congr_left fun k _ => ?_
  unfold rwN
  have e : ∀ (A : Nat → Nat → Int) (b w : Nat → Int), (SS n fun i => w i * SS n fun j => pw n A k i j * b j) = SS n fun i => SS n fun j => w i * (pw n A k i j * b j) := fun A b w => SS_congr fun i _ => (SS_mul ..).symm
  rw [e, e, SS_swap]
  refine SS_congr fun i hi => SS_congr fun j hj => ?_
  have e2 : pw n (ent (turnT A)) k j i = pw n (ent A) k i j := pw_turn (fun i j hi hj => turn_ent hA hi hj) k j i hj hi
  rw [e2, Int.mul_left_comm, Int.mul_left_comm (at0 w i), Int.mul_comm (at0 b j)]
/-! put in another order -/
def mvT (A : List (List Int)) (o : List Nat) : List (List Int) := o.map fun k => o.map fun l => ent A k l
theorem pw_move {n : Nat} {o : List Nat} (ho : o.Perm (List.range n)) {A B : Nat → Nat → Int} (h : ∀ i j, i < n → j < n → B i j = A (o[i]?.getD 0) (o[j]?.getD 0)) : ∀ k i j, i < n → j < n → pw n B k i j = pw n A k (o[i]?.getD 0) (o[j]?.getD 0)
  | 0, i, j, hi, hj => by
    have hl : o.length = n := by rw [ho.length_eq, List.length_range]
    have nd : o.Nodup := ho.nodup_iff.mpr List.nodup_range
    rw [pw, pw]
    by_cases e : i = j
    · rw [if_pos e, if_pos (by rw [e])]
    · rw [if_neg e, if_neg]
      rw [List.getElem?_eq_getElem (by omega), List.getElem?_eq_getElem (by omega)]
      intro z
      exact e ((List.getElem_inj nd).mp z)
  | k + 1, i, j, hi, hj => by
    rw [pw, pw, ← SS_perm ho fun l => A (o[i]?.getD 0) l * pw n A k l (o[j]?.getD 0)]
    exact SS_congr fun l hl => by rw [h i l hi hl, pw_move ho h k l j hl hj]
section
variable {n : Nat} {A : List (List Int)} {o : List Nat} (hA : sqT n A) (ho : o.Perm (List.range n))
include ho
theorem ord_len : o.length = n := by rw [ho.length_eq, List.length_range]
theorem ord_some {i : Nat} (hi : i < n) : o[i]? = some (o[i]?.getD 0) := by
  rw [List.getElem?_eq_getElem (by rw [ord_len ho]; exact hi)]
  rfl
theorem ord_lt {i : Nat} (hi : i < n) : o[i]?.getD 0 < n := List.mem_range.mp (ho.mem_iff.mp (List.mem_of_getElem? (ord_some ho hi)))
theorem mv_ent {i j : Nat} (hi : i < n) (hj : j < n) : ent (mvT A o) i j = ent A (o[i]?.getD 0) (o[j]?.getD 0) := by
  unfold mvT
  show at0 (rowAt _ i) j = _
  rw [rowAt_map (ord_some ho hi), at0_mapR (ord_some ho hj)]
theorem mv_sq : sqT n (mvT A o) := by
  refine ⟨by unfold mvT; rw [List.length_map, ord_len ho], fun r hr => ?_⟩
  obtain ⟨_, _, rfl⟩ := List.mem_map.mp hr
  rw [List.length_map, ord_len ho]
include hA
theorem own_mv : ownT (mvT A o) = ownT A := own_congr (mv_sq ho) hA fun k _ _ => by
  unfold trc
  rw [← SS_perm ho fun i => pw n (ent A) k i i]
  exact SS_congr fun i hi => pw_move ho (fun i j hi hj => mv_ent ho hi hj) k i i hi hi
theorem rw_mv {b w : List Int} (hb : b.length = n) (hw : w.length = n) (m : Nat) : (rwS (mvT A o) (o.map fun k => at0 b k) (o.map fun k => at0 w k) m).2 = (rwS A b w m).2 := by
  have hl := ord_len ho
  rw [rw_list (mv_sq ho) (by rw [List.length_map, hl]) (by rw [List.length_map, hl]), rw_list hA hb hw]
  refine List.map_congr_left fun k _ => ?_
  unfold rwN
  rw [← SS_perm ho fun i => at0 w i * SS n fun j => pw n (ent A) k i j * at0 b j]
  refine SS_congr fun i hi => ?_
  rw [at0_mapR (ord_some ho hi)]
  congr 1
  rw [← SS_perm ho fun j => pw n (ent A) k (o[i]?.getD 0) j * at0 b j]
  refine SS_congr fun j hj => ?_
  rw [at0_mapR (ord_some ho hj), pw_move ho (fun i j hi hj => mv_ent ho hi hj) k i j hi hj]
end
/-! two tables multiplied in either order -/
theorem pw_prod {n : Nat} {A B X Y : Nat → Nat → Int} (hX : ∀ i j, i < n → j < n → X i j = SS n fun l => A i l * B l j) (hY : ∀ i j, i < n → j < n → Y i j = SS n fun l => B i l * A l j) :
    ∀ k i j, i < n → j < n → pw n X (k + 1) i j = SS n fun l => A i l * SS n fun m => pw n Y k l m * B m j
  | 0, i, j, hi, hj => by
    rw [pw_one hj, hX i j hi hj]
    refine SS_congr fun l hl => ?_
    congr 1
    have : SS n (fun m => pw n Y 0 l m * B m j) = SS n (fun m => if l = m then B m j else 0) := SS_congr fun m _ => by
      rw [pw]
      by_cases e : l = m
      · rw [if_pos e, if_pos e, Int.one_mul]
      · rw [if_neg e, if_neg e, Int.zero_mul]
    rw [this, SS_one hl]
  | k + 1, i, j, hi, hj => by
    rw [pw]
    -- X^(k+2) = X * X^(k+1) = sum p (sum q A i q B q p) (sum l A p l (sum m Y^k l m B m j))
    have e1 : (SS n fun p => X i p * pw n X (k + 1) p j) = SS n fun p => SS n fun q => A i q * (B q p * SS n fun l => A p l * SS n fun m => pw n Y k l m * B m j) := SS_congr fun p hp => by
      rw [hX i p hi hp, pw_prod hX hY k p j hp hj, ← SS_mulr]
      exact SS_congr fun q _ => Int.mul_assoc ..
    rw [e1, SS_swap]
    refine SS_congr fun q hq => ?_
    rw [SS_mul]
    congr 1
    -- sum p B q p * sum l A p l * Z l = sum m (Y^(k+1) q m) B m j
    have e2 : (SS n fun p => B q p * SS n fun l => A p l * SS n fun m => pw n Y k l m * B m j) = SS n fun p => SS n fun l => B q p * A p l * SS n fun m => pw n Y k l m * B m j := SS_congr fun p _ => by
      rw [← SS_mul]
      exact SS_congr fun l _ => (Int.mul_assoc ..).symm
    rw [e2, SS_swap]
    have e3 : (SS n fun l => SS n fun p => B q p * A p l * SS n fun m => pw n Y k l m * B m j) = SS n fun l => SS n fun m => Y q l * pw n Y k l m * B m j := SS_congr fun l hl => by
      rw [SS_mulr, ← hY q l hq hl, ← SS_mul]
      exact SS_congr fun m _ => (Int.mul_assoc ..).symm
    rw [e3, SS_swap]
    refine SS_congr fun m _ => ?_
    rw [SS_mulr, pw]
theorem trc_prod {n : Nat} {A B X Y : Nat → Nat → Int} (hX : ∀ i j, i < n → j < n → X i j = SS n fun l => A i l * B l j) (hY : ∀ i j, i < n → j < n → Y i j = SS n fun l => B i l * A l j) {k : Nat} (hk : 1 ≤ k) : trc n X k = trc n Y k := by
  obtain ⟨k, rfl⟩ : ∃ k', k = k' + 1 := ⟨k - 1, by omega⟩
  unfold trc
  have e1 : (SS n fun i => pw n X (k + 1) i i) = SS n fun i => SS n fun l => SS n fun m => pw n Y k l m * (B m i * A i l) := SS_congr fun i hi => by
    rw [pw_prod hX hY k i i hi hi]
    refine SS_congr fun l _ => ?_
    rw [← SS_mul]
    refine SS_congr fun m _ => ?_
    rw [Int.mul_left_comm, Int.mul_comm (A i l)]
  rw [e1, SS_swap]
  refine SS_congr fun l hl => ?_
  rw [SS_swap, pw_right k l l hl hl]
  refine SS_congr fun m hm => ?_
  rw [SS_mul, hY m l hm hl]
theorem prod_ent {n : Nat} {A M : List (List Int)} (hA : sqT n A) (hM : sqT n M) {i j : Nat} (hi : i < n) (hj : j < n) : ent (A.map fun r => carryT (turnT M) r) i j = SS n fun l => ent A i l * ent M l j := by
  have hiA : i < A.length := by rw [hA.1]; exact hi
  show at0 (rowAt _ i) j = _
  rw [rowAt_map (rowAt_get hiA), carry_at (turn_sq hM) (hA.row hi) hj]
  exact SS_congr fun l hl => by rw [turn_ent hM hj hl, Int.mul_comm]
theorem prod_sq {n : Nat} {A M : List (List Int)} (hA : sqT n A) (hM : sqT n M) : sqT n (A.map fun r => carryT (turnT M) r) := by
  refine ⟨by rw [List.length_map, hA.1], fun r hr => ?_⟩
  obtain ⟨q, _, rfl⟩ := List.mem_map.mp hr
  unfold carryT
  rw [List.length_map, turn_len, hM.1]
theorem own_prod {n : Nat} {A M : List (List Int)} (hA : sqT n A) (hM : sqT n M) : ownT (A.map fun r => carryT (turnT M) r) = ownT (M.map fun r => carryT (turnT A) r) :=
  own_congr (prod_sq hA hM) (prod_sq hM hA) fun k hk _ => trc_prod (A := ent A) (B := ent M) (fun i j hi hj => prod_ent hA hM hi hj) (fun i j hi hj => prod_ent hM hA hi hj) hk
end RT
end
section
set_option autoImplicit false
namespace RT
open PySem PySem.Spec PyProof.Rows L2 DL
def S_law : FR := ⟨fun ns => ns.length ≤ 63, fun _ r => r = .d (.bool true)⟩
end RT
end
section
/-! printed by gen.py: what each def reads -/
namespace RT
open PySem PySem.Spec PyProof.Rows L2 DL
def E_law_1 : WE := (w2 (wCallO S__law_tdraw 1 (wCons (wC (.int 5)) wNil)) (wC (.int 2)) fSub)
def E_law_2 : WE := (wn (wCons (wLc (wRng1 (wCons (wVar 4) wNil)) (wName 15) wYes E_law_1 [15]) wNil) (on1 fTuple))
def E_law_3 : WE := (wCall S__law_tput (wCons (wVar 6) (wCons (wVar 9) wNil)))
def E_law_4 : WE := (fun G k => isLst G[8]? ∧ wPopAt 8 (wCallO S__law_tdraw 1 (wCons (wQ (qLen (qVar 8))) wNil)) G k)
def E_law_5 : WE := (w2 (wCallO S__law_tdraw 1 (wCons (wC (.int 11)) wNil)) (wC (.int 5)) fSub)
def E_law_6 : WE := (w2 (wCallO S__law_tdraw 1 (wCons (wC (.int 11)) wNil)) (wC (.int 5)) fSub)
def B_law_7 : WS := (wSeq (wSet 3 (wCallO S__law_ttable 1 (wCons (wC (.int 6)) (wCons (wC (.int 3)) wNil)))) (wSeq (wSet 4 (wQ (qLen (qVar 3)))) (wSeq (wSet 5 (wn (wCons (wLc (wSq (wVar 3)) (wName 6) wYes E_law_6 [6]) wNil) (on1 fTuple))) (wSeq (wSet 7 (wn (wCons (wLc (wSq (wVar 3)) (wName 6) wYes E_law_5 [6]) wNil) (on1 fTuple))) (wSeq (wSet 8 (wLstRg (wVar 4))) (wSeq (wSet 9 (wLc (wRng1 (wCons (wVar 4) wNil)) (wName 10) wYes E_law_4 [10])) (wSeq (wSet 11 (wCall S__law_tput (wCons (wLc (wSq (wVar 3)) (wName 6) wYes E_law_3 [6]) (wCons (wVar 9) wNil)))) (wSeq (wSet 12 (wTup (wCons (wCall S_own_poly (wCons (wVar 3) wNil)) (wCons (wCall S_row_of (wCons (wVar 3) (wCons (wVar 5) (wCons (wVar 7) wNil)))) (wCons (wCall S_traces (wCons (wVar 3) wNil)) wNil))))) (wSeq (wSet 13 (wCall S__law_tturned (wCons (wVar 3) wNil))) (wSeq (wIf (wTest (w2 (wTup (wCons (wCall S_own_poly (wCons (wVar 13) wNil)) (wCons (wCall S_row_of (wCons (wVar 13) (wCons (wVar 7) (wCons (wVar 5) wNil)))) (wCons (wCall S_traces (wCons (wVar 13) wNil)) wNil)))) (wVar 12) fNe)) (wRet (wC (.bool false))) wNext) (wSeq (wPar 5 7 (wCons (wCall S__law_tput (wCons (wVar 5) (wCons (wVar 9) wNil))) (wCons (wCall S__law_tput (wCons (wVar 7) (wCons (wVar 9) wNil))) wNil))) (wSeq (wIf (wTest (w2 (wTup (wCons (wCall S_own_poly (wCons (wVar 11) wNil)) (wCons (wCall S_row_of (wCons (wVar 11) (wCons (wVar 5) (wCons (wVar 7) wNil)))) (wCons (wCall S_traces (wCons (wVar 11) wNil)) wNil)))) (wVar 12) fNe)) (wRet (wC (.bool false))) wNext) (wSeq (wSet 14 (wn (wCons (wLc (wRng1 (wCons (wVar 4) wNil)) (wName 10) wYes E_law_2 [10]) wNil) (on1 fTuple))) (wSeq (wPar 16 17 (wCons (wCall S__law_tproduct (wCons (wVar 3) (wCons (wVar 14) wNil))) (wCons (wCall S__law_tproduct (wCons (wVar 14) (wCons (wVar 3) wNil))) wNil))) (wIf (wOrT (wTest (w2 (wCall S_own_poly (wCons (wVar 16) wNil)) (wCall S_own_poly (wCons (wVar 17) wNil)) fNe)) (wTest (w2 (wCall S_traces (wCons (wVar 16) wNil)) (wCall S_traces (wCons (wVar 17) wNil)) fNe))) (wRet (wC (.bool false))) wNext)))))))))))))))
def W_law : WS := (wSeq (wSet 1 (wCallR S__law_tpen 0)) (wSeq (wFor (wRng1 (wCons (wC (.int 3)) wNil)) (wName 2) B_law_7) (wRet (wC (.bool true)))))
end RT
end
section
set_option autoImplicit false
namespace RT
open PySem PySem.Spec PyProof.Rows L2 DL
theorem draws {z : Option Addr} {mk : T → Gm} {g : WG} {tt : WT} {te : WE} {own : List Nat} {items : List PyData} {lo hi t0 : Int} {k : List T → Gm → Prop} {o : T} {p : Pn} (ho : PenAt z o p) (hp : p.ok) (ht : p.t ≤ t0) (ht0 : t0 + items.length ≤ 1000000000)
    (step : ∀ (x : PyData), x ∈ items → ∀ (o : T) (p : Pn), PenAt z o p → p.ok → p.t ≤ 1000000000 → ∀ (R : T → Gm → Prop) (R2 : Gm → Prop), (∀ (o : T) (q : Pn) (v : Int), PenAt z o q → q.ok → q.t ≤ p.t + 1 → lo ≤ v → v ≤ hi → R (.d (.int v)) (mk o)) → g x (mk o) fun G2 => tt G2 fun b G3 => if b = true then te G3 fun y G4 => match takeOf G4 y with
      | some (ty, G5) => R ty (wipeG G5 own)
      | none => False else R2 (wipeG G3 own))
    (hk : ∀ (o : T) (p : Pn) (xs : List Int), PenAt z o p → p.ok → p.t ≤ t0 + items.length → xs.length = items.length → (∀ x ∈ xs, lo ≤ x ∧ x ≤ hi) → k (iE xs) (mk o)) : lcW g tt te own items [] (mk o) k := by
  refine lcW_inv (fun i acc G => ∃ o p xs, PenAt z o p ∧ p.ok ∧ p.t ≤ t0 + i ∧ xs.length = i ∧ (∀ x ∈ xs, lo ≤ x ∧ x ≤ hi) ∧ acc = iE xs ∧ G = mk o)
    items 0 [] _ ⟨o, p, [], ho, hp, by omega, rfl, fun x hx => (nomatch hx), rfl, rfl⟩ (fun i x acc G hx hI R hR => ?_) (fun acc G hI => ?_)
  · obtain ⟨o, p, xs, ho, hp, ht, hl, hb, rfl, rfl⟩ := hI
    have hi : i < items.length := (List.getElem?_eq_some_iff.mp hx).1
    refine step x (List.mem_of_getElem? hx) o p ho hp (by omega) (fun ty G' => R (iE xs ++ [ty]) G') (fun G' => R (iE xs) G') fun o q v h1 h2 h3 h4 h5 => ?_
    rw [iE_snoc']
    refine hR _ _ ⟨o, q, xs ++ [v], h1, h2, by omega, by rw [List.length_append, hl]; rfl, fun x hx => ?_, rfl, rfl⟩
    rcases List.mem_append.mp hx with hx | hx
    · exact hb x hx
    · rw [List.mem_singleton.mp hx]
      exact ⟨h4, h5⟩
  · obtain ⟨o, p, xs, ho, hp, ht, hl, hb, rfl, rfl⟩ := hI
    exact hk o p xs ho hp (by omega) (by omega) hb
theorem table_at {z : Option Addr} {s : Nat} {G : Gm} {o : T} {p : Pn} {most c : Int} {k : DL.Tm → Gm → Prop} (hG : G[s]? = some (some o)) (ho : PenAt z o p) (hp : p.ok) (ht : p.t ≤ 900000000) (h1 : 0 < most) (h2 : most ≤ 6) (h3 : 0 ≤ c) (h4 : c ≤ 1000) {wa : WA} (hwa : ∀ k' : List DL.Tm → Gm → Prop, k' [.t (.d (.int most)), .t (.d (.int c))] G → wa G k')
    (h : ∀ (n : Nat) (A : List (List Int)) (q : Pn), 1 ≤ n → (n : Int) ≤ most → isTab n c A → q.ok → q.t ≤ p.t + 1000 → k (.t (.d (tT A))) (G.set s (some (o.re q.T)))) : wCallO S__law_ttable s wa G k := by
  unfold wCallO
  rw [hG]
  refine ⟨ho.held, ?_⟩
  refine hwa _ ?_
  have e : frzsOf G [DL.Tm.t (.d (.int most)), DL.Tm.t (.d (.int c))] = some ([.int most, .int c], G) := by
    simp only [frzsOf, frzOf, toD_d]
  simp only [e, hG]
  refine ⟨ho.held, (p, most, c), ho.core, rfl, ⟨h1, h2, h3, h4, hp, ht⟩, fun r t' hpost => ?_⟩
  obtain ⟨n, A, q, rfl, h1, h2, h3, rfl, h5, h6⟩ := hpost
  exact h n A q h1 h2 h3 h5 h6
theorem isTab.sq {n : Nat} {c : Int} {A : List (List Int)} (h : isTab n c A) : sqT n A := ⟨h.1, h.2.1⟩
/-- numbers not above so much -/
def Bq (c : Int) (A : List (List Int)) : Prop := ∀ r ∈ A, ∀ x ∈ r, -c ≤ x ∧ x ≤ c
theorem okTab_of {n a : Nat} {c : Int} {A : List (List Int)} (h : sqT n A) (hn : n ≤ 12) (hb : Bq c A) (hc : c ≤ (2 ^ a : Nat)) (ha : a ≤ 1000) : okTab a A := by
  refine ⟨by rw [h.1]; exact hn, fun r hr => by rw [h.2 r hr, h.1], fun r hr x hx => ?_, ha⟩
  have := hb r hr x hx
  omega
theorem room_of {a b n : Nat} (h1 : a ≤ 6) (h2 : b ≤ 3) (h3 : n ≤ 6) : roomT a b n := by
  unfold roomT
  have e1 : (a + 14) * n ≤ 20 * 6 := Nat.mul_le_mul (by omega) h3
  have e2 : 5 ^ (n + 1) ≤ 5 ^ 7 := Nat.pow_le_pow_right (by decide) (by omega)
  have e3 : 2 * ((a + 14) * n + 2 * b + 5) + n + 3 ≤ 300 := by omega
  exact Nat.le_trans (Nat.mul_le_mul e3 e2) (by decide)
theorem bq_turn {n : Nat} {c : Int} {A : List (List Int)} (h : sqT n A) (hb : Bq c A) (hc : 0 ≤ c) : Bq c (turnT A) := by
  intro r hr x hx
  obtain ⟨k, _, rfl⟩ := List.mem_map.mp hr
  obtain ⟨q, hq, rfl⟩ := List.mem_map.mp hx
  by_cases hk : k < q.length
  · exact hb q hq _ (at0_mem hk)
  · rw [at0_out (by omega)]
    omega
theorem bq_mv {n : Nat} {c : Int} {A : List (List Int)} {o : List Nat} (h : sqT n A) (hb : Bq c A) (ho : o.Perm (List.range n)) : Bq c (mvT A o) := by
  intro r hr x hx
  obtain ⟨k, hk, rfl⟩ := List.mem_map.mp hr
  obtain ⟨l, hl, rfl⟩ := List.mem_map.mp hx
  have hk : k < n := List.mem_range.mp (ho.mem_iff.mp hk)
  have hl : l < n := List.mem_range.mp (ho.mem_iff.mp hl)
  have hr : rowAt A k ∈ A := rowAt_mem (by rw [h.1]; exact hk)
  exact hb _ hr _ (at0_mem (by rw [h.2 _ hr]; exact hl))
theorem sum_bq {c : Int} : ∀ {xs : List Int}, (∀ x ∈ xs, -c ≤ x ∧ x ≤ c) → -(xs.length * c) ≤ xs.sum ∧ xs.sum ≤ xs.length * c
  | [], _ => by simp
  | x :: xs, h => by
    have h1 := h x List.mem_cons_self
    have h2 := sum_bq fun y hy => h y (List.mem_cons_of_mem _ hy)
    rw [List.sum_cons, List.length_cons]
    have e : ((xs.length + 1 : Nat) : Int) * c = xs.length * c + c := by
      rw [Int.natCast_add, Int.add_mul]
      simp
    omega
theorem Int.abs_mul_le {a b c d : Int} (h1 : -c ≤ a ∧ a ≤ c) (h2 : -d ≤ b ∧ b ≤ d) : -(c * d) ≤ a * b ∧ a * b ≤ c * d := by
  have hc : 0 ≤ c := by omega
  have hd : 0 ≤ d := by omega
  have e1 : a.natAbs ≤ c.natAbs := by omega
  have e2 : b.natAbs ≤ d.natAbs := by omega
  have e3 : (a * b).natAbs ≤ (c * d).natAbs := by
    rw [Int.natAbs_mul, Int.natAbs_mul]
    exact Nat.mul_le_mul e1 e2
  have e4 : 0 ≤ c * d := Int.mul_nonneg hc hd
  omega
theorem dot_bq {n : Nat} {c d : Int} {a b : List Int} (ha : ∀ x ∈ a, -c ≤ x ∧ x ≤ c) (hb : ∀ x ∈ b, -d ≤ x ∧ x ≤ d) (hl : a.length = n) (hc : 0 ≤ c * d) : -(n * (c * d)) ≤ dotP a b ∧ dotP a b ≤ n * (c * d) := by
  have h : ∀ x ∈ List.zipWith (fun x y => x * y) a b, -(c * d) ≤ x ∧ x ≤ c * d := fun x hx => by
    obtain ⟨i, hi, e⟩ := List.getElem_of_mem hx
    rw [List.getElem_zipWith] at e
    rw [← e]
    exact Int.abs_mul_le (ha _ (List.getElem_mem _)) (hb _ (List.getElem_mem _))
  have h2 := sum_bq h
  have h3 : ((List.zipWith (fun x y => x * y) a b).length : Int) * (c * d) ≤ n * (c * d) := by
    refine Int.mul_le_mul_of_nonneg_right ?_ hc
    rw [List.length_zipWith]
    omega
  unfold dotP
  omega
theorem bq_prod {n : Nat} {c d : Int} {A M : List (List Int)} (hA : sqT n A) (hM : sqT n M) (ha : Bq c A) (hm : Bq d M) (hc : 0 ≤ c) (hd : 0 ≤ d) : Bq (n * (c * d)) (A.map fun r => carryT (turnT M) r) := by
  intro r hr x hx
  obtain ⟨q, hq, rfl⟩ := List.mem_map.mp hr
  obtain ⟨w, hw, rfl⟩ := List.mem_map.mp hx
  have := dot_bq (n := n) (c := d) (d := c) (bq_turn hM hm hd w hw) (ha q hq) (by rw [turn_row hw, hM.1]) (Int.mul_nonneg hd hc)
  rw [Int.mul_comm d c] at this
  exact this
theorem ok_due {p s f s2 f2 : List Int} : okD (.tuple [dT p, rowD s f, rowD s2 f2]) = true := by
  have e : ∀ xs : List Int, PyData.canLay0 (dT xs) = true ∧ PyData.depth (dT xs) = 1 := fun xs => by
    unfold dT
    rw [PyData.canLay0, PyData.depth, (shaped_iD xs).1, (shaped_iD xs).2]
    exact ⟨rfl, rfl⟩
  unfold okD rowD SeqAt.shaped
  simp only [plainD, plainDs, PyData.canLay0, PyData.depth, PyData.canLayAll0, PyData.depthAll, e, Bool.and_true]
  have e2 : ∀ xs : List Int, plainD (dT xs) = true := fun xs => by
    unfold dT
    rw [plainD, plain_iD]
  simp only [e2]
  decide
theorem ok_rowD {s f : List Int} : okD (rowD s f) = true := by
  have e : ∀ xs : List Int, PyData.canLay0 (dT xs) = true ∧ PyData.depth (dT xs) = 1 := fun xs => by
    unfold dT
    rw [PyData.canLay0, PyData.depth, (shaped_iD xs).1, (shaped_iD xs).2]
    exact ⟨rfl, rfl⟩
  unfold okD rowD SeqAt.shaped
  simp only [plainD, plainDs, PyData.canLay0, PyData.depth, PyData.canLayAll0, PyData.depthAll, e, Bool.and_true]
  have e2 : ∀ xs : List Int, plainD (dT xs) = true := fun xs => by
    unfold dT
    rw [plainD, plain_iD]
  simp only [e2]
  decide
theorem fNe_self {a : PyData} {k : T → Prop} (h : okD a = true) : fNe a a k = k (.d (.bool false)) := by
  rw [fNe_ok h h, (eqv_ok h h).mpr rfl]
  rfl
def natsI (l : List Nat) : List Int := l.map fun (k : Nat) => (k : Int)
theorem rangeD_nats (n : Nat) : rangeD 0 n = iD (natsI (List.range n)) := by
  unfold rangeD iD natsI
  rw [List.map_map]
  refine List.map_congr_left fun i _ => ?_
  show PyData.int (0 + (i : Int)) = PyData.int (i : Int)
  rw [Int.zero_add]
theorem range_at {n : Nat} {x : PyData} (h : x ∈ rangeD 0 n) : ∃ i, i < n ∧ x = .int (i : Int) := by
  obtain ⟨i, hi⟩ := List.mem_iff_getElem?.mp h
  exact ⟨i, rangeD_at hi⟩
end RT
end
section
set_option autoImplicit false
namespace RT
open PySem PySem.Spec PyProof.Rows L2 DL
/-- the state of the law's turn: the pen and fifteen more -/
abbrev LG (ns : List Int) (o : T) (x2 x3 x4 x5 x7 x8 x9 x11 x12 x13 x14 x16 x17 : Option T) : Gm := [some (.ro ns), some o, x2, x3, x4, x5, none, x7, x8, x9, none, x11, x12, x13, x14, none, x16, x17]
section
variable {ns : List Int} {o : T} {p : Pn} {x2 x3 x4 x5 x7 x8 x9 x11 x12 x13 x14 x16 x17 : Option T}
/-- begin, weights: a draw for each line -/
theorem draw_vec {A : List (List Int)} {te : WE} {k : List T → Gm → Prop} (ho : PenAt none o p) (hp : p.ok) (ht : p.t + A.length ≤ 900000000)
    (hte : te = (w2 (wCallO S__law_tdraw 1 (wCons (wC (.int 11)) wNil)) (wC (.int 5)) fSub))
    (hk : ∀ (o : T) (q : Pn) (xs : List Int), PenAt none o q → q.ok → q.t ≤ p.t + A.length → xs.length = A.length → (∀ x ∈ xs, -5 ≤ x ∧ x ≤ 5) → k (iE xs) (LG ns o x2 x3 x4 x5 x7 x8 x9 x11 x12 x13 x14 x16 x17)) :
    lcW (wName 6) wYes te [6] (A.map dT) [] (LG ns o x2 x3 x4 x5 x7 x8 x9 x11 x12 x13 x14 x16 x17) k := by
  subst hte
  refine draws (z := none) (mk := fun o => LG ns o x2 x3 x4 x5 x7 x8 x9 x11 x12 x13 x14 x16 x17) (lo := -5) (hi := 5) ho hp (Int.le_refl _) (by rw [List.length_map]; omega) (fun x hx o p ho hp ht R R2 hR => ?_) (fun o q xs h1 h2 h3 h4 h5 => ?_)
  · obtain ⟨r, hr, rfl⟩ := List.mem_map.mp hx
    simp only [wSeq, wSet, wAsg, wExpr, wRet, wIf, wTest, wNotT, wAndT, wOrT, wIfE, w1, w2, wn, wNil, wCons, wVar, varK_iL, varK_d, wC, wLst, wTup, wQ, qVar_eq, qvO_iL, qvO_d, qC, qI, qNeg, qLen, wNext, takesOf, take_al, take_t, takeO_iL, frzsOf, frzOf, datsOf, datOf, on1, on2, put_t, put_al, putO_iL, toD_iL, toD_d, flat_iL, flat_d, lst_nil, lst_one, lst_iE, lst_iD, nil_dT, nil_dL, fList_dL, fList_dT, fTuple_dL, fTuple_dT, fLen_dL, fLen_dT, fSum_dL, fCat_dL, fCat_int, fRep_dL, fRep_int, fSub_int, fMod_int, fDiv_int, fLt_int, fLe_int, fGt_int, fGe_int, fNeg_int, fAbs_int, fMax2_int, fMin2_int, fInt_int, fInt_bool, fSl_dL, fSl_dT, fSl3_dL, fSl3_dT, fEq_int, fNe_int, fEq_dL, fNe_dL, fEq_dT, fNe_dT, items_dL, items_dT, wSl, wSl3, wNo, wPart, wSq_eq, sqK_t, sqK_al, sqO_iL, qIx_eq, qIxK, lstAt_eq, lstO_iL, DL.placeOf, T.get, core_d, re_iL, re_d, T.put, List.getElem?_cons_zero, List.getElem?_cons_succ, List.set_cons_zero, List.set_cons_succ, List.length_cons, List.length_nil, iD_len, iE_len, and_true, true_and, Bool.not_true, Bool.not_false, if_true, if_false, Bool.false_eq_true, decide_eq_true_eq, Bool.not_eq_true', decide_eq_false_iff_not, wFor, wRng1, wRng2, wRng3, wName, endsD, startG, List.map_cons, List.map_nil, List.replicate, List.cons_append, List.nil_append, look, wCall, Option.some.injEq, exists_eq_left', wPar, DL.putAt, wSetQ, wApp_eq, appO_iL, isLst_iL, wPop_eq, popO_iL, Nat.zero_le, not_true_eq_false, not_false_eq_true, wLc, wipeG, restG, toD_iLL, varK_iLL, qvO_iLL, lstO_iLL, re_iLL, lst_iLL, items_tT, items_tL, takeO_iLL, putO_iLL, sqO_iLL, keepD_iLL, wZp, keepD_none, keepD_d, keepD_iL, items_tup, items_lst, wYes, wTTup, wTCons, wTNil]
    refine ⟨by decide, ?_⟩
    refine draw_at (z := none) (c := 11) rfl ho hp (by omega) (by decide) (fun k' h => ?_) fun v q h1 h2 h3 h4 => ?_
    · simp only [wSeq, wSet, wAsg, wExpr, wRet, wIf, wTest, wNotT, wAndT, wOrT, wIfE, w1, w2, wn, wNil, wCons, wVar, varK_iL, varK_d, wC, wLst, wTup, wQ, qVar_eq, qvO_iL, qvO_d, qC, qI, qNeg, qLen, wNext, takesOf, take_al, take_t, takeO_iL, frzsOf, frzOf, datsOf, datOf, on1, on2, put_t, put_al, putO_iL, toD_iL, toD_d, flat_iL, flat_d, lst_nil, lst_one, lst_iE, lst_iD, nil_dT, nil_dL, fList_dL, fList_dT, fTuple_dL, fTuple_dT, fLen_dL, fLen_dT, fSum_dL, fCat_dL, fCat_int, fRep_dL, fRep_int, fSub_int, fMod_int, fDiv_int, fLt_int, fLe_int, fGt_int, fGe_int, fNeg_int, fAbs_int, fMax2_int, fMin2_int, fInt_int, fInt_bool, fSl_dL, fSl_dT, fSl3_dL, fSl3_dT, fEq_int, fNe_int, fEq_dL, fNe_dL, fEq_dT, fNe_dT, items_dL, items_dT, wSl, wSl3, wNo, wPart, wSq_eq, sqK_t, sqK_al, sqO_iL, qIx_eq, qIxK, lstAt_eq, lstO_iL, DL.placeOf, T.get, core_d, re_iL, re_d, T.put, List.getElem?_cons_zero, List.getElem?_cons_succ, List.set_cons_zero, List.set_cons_succ, List.length_cons, List.length_nil, iD_len, iE_len, and_true, true_and, Bool.not_true, Bool.not_false, if_true, if_false, Bool.false_eq_true, decide_eq_true_eq, Bool.not_eq_true', decide_eq_false_iff_not, wFor, wRng1, wRng2, wRng3, wName, endsD, startG, List.map_cons, List.map_nil, List.replicate, List.cons_append, List.nil_append, look, wCall, Option.some.injEq, exists_eq_left', wPar, DL.putAt, wSetQ, wApp_eq, appO_iL, isLst_iL, wPop_eq, popO_iL, Nat.zero_le, not_true_eq_false, not_false_eq_true, wLc, wipeG, restG, toD_iLL, varK_iLL, qvO_iLL, lstO_iLL, re_iLL, lst_iLL, items_tT, items_tL, takeO_iLL, putO_iLL, sqO_iLL, keepD_iLL, wZp, keepD_none, keepD_d, keepD_iL, items_tup, items_lst, wYes, wTTup, wTCons, wTNil]
      exact h
    · simp only [wSeq, wSet, wAsg, wExpr, wRet, wIf, wTest, wNotT, wAndT, wOrT, wIfE, w1, w2, wn, wNil, wCons, wVar, varK_iL, varK_d, wC, wLst, wTup, wQ, qVar_eq, qvO_iL, qvO_d, qC, qI, qNeg, qLen, wNext, takesOf, take_al, take_t, takeO_iL, frzsOf, frzOf, datsOf, datOf, on1, on2, put_t, put_al, putO_iL, toD_iL, toD_d, flat_iL, flat_d, lst_nil, lst_one, lst_iE, lst_iD, nil_dT, nil_dL, fList_dL, fList_dT, fTuple_dL, fTuple_dT, fLen_dL, fLen_dT, fSum_dL, fCat_dL, fCat_int, fRep_dL, fRep_int, fSub_int, fMod_int, fDiv_int, fLt_int, fLe_int, fGt_int, fGe_int, fNeg_int, fAbs_int, fMax2_int, fMin2_int, fInt_int, fInt_bool, fSl_dL, fSl_dT, fSl3_dL, fSl3_dT, fEq_int, fNe_int, fEq_dL, fNe_dL, fEq_dT, fNe_dT, items_dL, items_dT, wSl, wSl3, wNo, wPart, wSq_eq, sqK_t, sqK_al, sqO_iL, qIx_eq, qIxK, lstAt_eq, lstO_iL, DL.placeOf, T.get, core_d, re_iL, re_d, T.put, List.getElem?_cons_zero, List.getElem?_cons_succ, List.set_cons_zero, List.set_cons_succ, List.length_cons, List.length_nil, iD_len, iE_len, and_true, true_and, Bool.not_true, Bool.not_false, if_true, if_false, Bool.false_eq_true, decide_eq_true_eq, Bool.not_eq_true', decide_eq_false_iff_not, wFor, wRng1, wRng2, wRng3, wName, endsD, startG, List.map_cons, List.map_nil, List.replicate, List.cons_append, List.nil_append, look, wCall, Option.some.injEq, exists_eq_left', wPar, DL.putAt, wSetQ, wApp_eq, appO_iL, isLst_iL, wPop_eq, popO_iL, Nat.zero_le, not_true_eq_false, not_false_eq_true, wLc, wipeG, restG, toD_iLL, varK_iLL, qvO_iLL, lstO_iLL, re_iLL, lst_iLL, items_tT, items_tL, takeO_iLL, putO_iLL, sqO_iLL, keepD_iLL, wZp, keepD_none, keepD_d, keepD_iL, items_tup, items_lst, wYes, wTTup, wTCons, wTNil]
      exact hR _ q _ ho.re h3 (by omega) (by omega) (by omega)
  · rw [List.length_map] at h3 h4
    exact hk o q xs h1 h2 h3 h4 h5
/-- a row of another table -/
theorem draw_row {n : Nat} {x10 : Option T} {k : List T → Gm → Prop} (ho : PenAt none o p) (hp : p.ok) (ht : p.t + n ≤ 900000000)
    (hk : ∀ (o : T) (q : Pn) (xs : List Int), PenAt none o q → q.ok → q.t ≤ p.t + n → xs.length = n → (∀ x ∈ xs, -2 ≤ x ∧ x ≤ 2) → k (iE xs) [some (.ro ns), some o, x2, x3, x4, x5, none, x7, x8, x9, x10, x11, x12, x13, x14, none, x16, x17]) :
    lcW (wName 15) wYes E_law_1 [15] (rangeD 0 n) [] [some (.ro ns), some o, x2, x3, x4, x5, none, x7, x8, x9, x10, x11, x12, x13, x14, none, x16, x17] k := by
  refine draws (z := none) (mk := fun o => [some (.ro ns), some o, x2, x3, x4, x5, none, x7, x8, x9, x10, x11, x12, x13, x14, none, x16, x17]) (lo := -2) (hi := 2) ho hp (Int.le_refl _) (by rw [rangeD_len]; omega) (fun x hx o p ho hp ht R R2 hR => ?_) (fun o q xs h1 h2 h3 h4 h5 => ?_)
  · obtain ⟨i, _, rfl⟩ := range_at hx
    simp only [E_law_1, wSeq, wSet, wAsg, wExpr, wRet, wIf, wTest, wNotT, wAndT, wOrT, wIfE, w1, w2, wn, wNil, wCons, wVar, varK_iL, varK_d, wC, wLst, wTup, wQ, qVar_eq, qvO_iL, qvO_d, qC, qI, qNeg, qLen, wNext, takesOf, take_al, take_t, takeO_iL, frzsOf, frzOf, datsOf, datOf, on1, on2, put_t, put_al, putO_iL, toD_iL, toD_d, flat_iL, flat_d, lst_nil, lst_one, lst_iE, lst_iD, nil_dT, nil_dL, fList_dL, fList_dT, fTuple_dL, fTuple_dT, fLen_dL, fLen_dT, fSum_dL, fCat_dL, fCat_int, fRep_dL, fRep_int, fSub_int, fMod_int, fDiv_int, fLt_int, fLe_int, fGt_int, fGe_int, fNeg_int, fAbs_int, fMax2_int, fMin2_int, fInt_int, fInt_bool, fSl_dL, fSl_dT, fSl3_dL, fSl3_dT, fEq_int, fNe_int, fEq_dL, fNe_dL, fEq_dT, fNe_dT, items_dL, items_dT, wSl, wSl3, wNo, wPart, wSq_eq, sqK_t, sqK_al, sqO_iL, qIx_eq, qIxK, lstAt_eq, lstO_iL, DL.placeOf, T.get, core_d, re_iL, re_d, T.put, List.getElem?_cons_zero, List.getElem?_cons_succ, List.set_cons_zero, List.set_cons_succ, List.length_cons, List.length_nil, iD_len, iE_len, and_true, true_and, Bool.not_true, Bool.not_false, if_true, if_false, Bool.false_eq_true, decide_eq_true_eq, Bool.not_eq_true', decide_eq_false_iff_not, wFor, wRng1, wRng2, wRng3, wName, endsD, startG, List.map_cons, List.map_nil, List.replicate, List.cons_append, List.nil_append, look, wCall, Option.some.injEq, exists_eq_left', wPar, DL.putAt, wSetQ, wApp_eq, appO_iL, isLst_iL, wPop_eq, popO_iL, Nat.zero_le, not_true_eq_false, not_false_eq_true, wLc, wipeG, restG, toD_iLL, varK_iLL, qvO_iLL, lstO_iLL, re_iLL, lst_iLL, items_tT, items_tL, takeO_iLL, putO_iLL, sqO_iLL, keepD_iLL, wZp, keepD_none, keepD_d, keepD_iL, items_tup, items_lst, wYes, wTTup, wTCons, wTNil]
    refine ⟨by decide, ?_⟩
    refine draw_at (z := none) (c := 5) rfl ho hp (by omega) (by decide) (fun k' h => ?_) fun v q h1 h2 h3 h4 => ?_
    · simp only [wSeq, wSet, wAsg, wExpr, wRet, wIf, wTest, wNotT, wAndT, wOrT, wIfE, w1, w2, wn, wNil, wCons, wVar, varK_iL, varK_d, wC, wLst, wTup, wQ, qVar_eq, qvO_iL, qvO_d, qC, qI, qNeg, qLen, wNext, takesOf, take_al, take_t, takeO_iL, frzsOf, frzOf, datsOf, datOf, on1, on2, put_t, put_al, putO_iL, toD_iL, toD_d, flat_iL, flat_d, lst_nil, lst_one, lst_iE, lst_iD, nil_dT, nil_dL, fList_dL, fList_dT, fTuple_dL, fTuple_dT, fLen_dL, fLen_dT, fSum_dL, fCat_dL, fCat_int, fRep_dL, fRep_int, fSub_int, fMod_int, fDiv_int, fLt_int, fLe_int, fGt_int, fGe_int, fNeg_int, fAbs_int, fMax2_int, fMin2_int, fInt_int, fInt_bool, fSl_dL, fSl_dT, fSl3_dL, fSl3_dT, fEq_int, fNe_int, fEq_dL, fNe_dL, fEq_dT, fNe_dT, items_dL, items_dT, wSl, wSl3, wNo, wPart, wSq_eq, sqK_t, sqK_al, sqO_iL, qIx_eq, qIxK, lstAt_eq, lstO_iL, DL.placeOf, T.get, core_d, re_iL, re_d, T.put, List.getElem?_cons_zero, List.getElem?_cons_succ, List.set_cons_zero, List.set_cons_succ, List.length_cons, List.length_nil, iD_len, iE_len, and_true, true_and, Bool.not_true, Bool.not_false, if_true, if_false, Bool.false_eq_true, decide_eq_true_eq, Bool.not_eq_true', decide_eq_false_iff_not, wFor, wRng1, wRng2, wRng3, wName, endsD, startG, List.map_cons, List.map_nil, List.replicate, List.cons_append, List.nil_append, look, wCall, Option.some.injEq, exists_eq_left', wPar, DL.putAt, wSetQ, wApp_eq, appO_iL, isLst_iL, wPop_eq, popO_iL, Nat.zero_le, not_true_eq_false, not_false_eq_true, wLc, wipeG, restG, toD_iLL, varK_iLL, qvO_iLL, lstO_iLL, re_iLL, lst_iLL, items_tT, items_tL, takeO_iLL, putO_iLL, sqO_iLL, keepD_iLL, wZp, keepD_none, keepD_d, keepD_iL, items_tup, items_lst, wYes, wTTup, wTCons, wTNil]
      exact h
    · simp only [wSeq, wSet, wAsg, wExpr, wRet, wIf, wTest, wNotT, wAndT, wOrT, wIfE, w1, w2, wn, wNil, wCons, wVar, varK_iL, varK_d, wC, wLst, wTup, wQ, qVar_eq, qvO_iL, qvO_d, qC, qI, qNeg, qLen, wNext, takesOf, take_al, take_t, takeO_iL, frzsOf, frzOf, datsOf, datOf, on1, on2, put_t, put_al, putO_iL, toD_iL, toD_d, flat_iL, flat_d, lst_nil, lst_one, lst_iE, lst_iD, nil_dT, nil_dL, fList_dL, fList_dT, fTuple_dL, fTuple_dT, fLen_dL, fLen_dT, fSum_dL, fCat_dL, fCat_int, fRep_dL, fRep_int, fSub_int, fMod_int, fDiv_int, fLt_int, fLe_int, fGt_int, fGe_int, fNeg_int, fAbs_int, fMax2_int, fMin2_int, fInt_int, fInt_bool, fSl_dL, fSl_dT, fSl3_dL, fSl3_dT, fEq_int, fNe_int, fEq_dL, fNe_dL, fEq_dT, fNe_dT, items_dL, items_dT, wSl, wSl3, wNo, wPart, wSq_eq, sqK_t, sqK_al, sqO_iL, qIx_eq, qIxK, lstAt_eq, lstO_iL, DL.placeOf, T.get, core_d, re_iL, re_d, T.put, List.getElem?_cons_zero, List.getElem?_cons_succ, List.set_cons_zero, List.set_cons_succ, List.length_cons, List.length_nil, iD_len, iE_len, and_true, true_and, Bool.not_true, Bool.not_false, if_true, if_false, Bool.false_eq_true, decide_eq_true_eq, Bool.not_eq_true', decide_eq_false_iff_not, wFor, wRng1, wRng2, wRng3, wName, endsD, startG, List.map_cons, List.map_nil, List.replicate, List.cons_append, List.nil_append, look, wCall, Option.some.injEq, exists_eq_left', wPar, DL.putAt, wSetQ, wApp_eq, appO_iL, isLst_iL, wPop_eq, popO_iL, Nat.zero_le, not_true_eq_false, not_false_eq_true, wLc, wipeG, restG, toD_iLL, varK_iLL, qvO_iLL, lstO_iLL, re_iLL, lst_iLL, items_tT, items_tL, takeO_iLL, putO_iLL, sqO_iLL, keepD_iLL, wZp, keepD_none, keepD_d, keepD_iL, items_tup, items_lst, wYes, wTTup, wTCons, wTNil]
      exact hR _ q _ ho.re h3 (by omega) (by omega) (by omega)
  · rw [rangeD_len] at h3 h4
    exact hk o q xs h1 h2 h3 h4 h5
theorem draw_other {n : Nat} {k : List T → Gm → Prop} (hn : n ≤ 6) (ho : PenAt none o p) (hp : p.ok) (ht : p.t ≤ 800000000)
    (hk : ∀ (o : T) (q : Pn) (B : List (List Int)), PenAt none o q → q.ok → q.t ≤ p.t + 6 * n → B.length = n → (∀ r ∈ B, r.length = n ∧ ∀ x ∈ r, -2 ≤ x ∧ x ≤ 2) → k (B.map fun r => .d (dT r)) (LG ns o x2 x3 (some (.d (.int n))) x5 x7 x8 x9 x11 x12 x13 x14 x16 x17)) :
    lcW (wName 10) wYes E_law_2 [10] (rangeD 0 n) [] (LG ns o x2 x3 (some (.d (.int n))) x5 x7 x8 x9 x11 x12 x13 x14 x16 x17) k := by
  refine lcW_inv (fun i acc G => ∃ o q B, PenAt none o q ∧ q.ok ∧ q.t ≤ p.t + 6 * i ∧ B.length = i ∧ (∀ r ∈ B, r.length = n ∧ ∀ x ∈ r, -2 ≤ x ∧ x ≤ 2) ∧ acc = (B.map fun r => T.d (dT r)) ∧ G = LG ns o x2 x3 (some (.d (.int n))) x5 x7 x8 x9 x11 x12 x13 x14 x16 x17)
    (rangeD 0 n) 0 [] _ ⟨o, p, [], ho, hp, by omega, rfl, fun r hr => (nomatch hr), rfl, rfl⟩ (fun i x acc G hx hI R hR => ?_) (fun acc G hI => ?_)
  · obtain ⟨hi, rfl⟩ := rangeD_at hx
    obtain ⟨o, q, B, ho, hq, ht', hl, hB, rfl, rfl⟩ := hI
    simp only [E_law_2, wSeq, wSet, wAsg, wExpr, wRet, wIf, wTest, wNotT, wAndT, wOrT, wIfE, w1, w2, wn, wNil, wCons, wVar, varK_iL, varK_d, wC, wLst, wTup, wQ, qVar_eq, qvO_iL, qvO_d, qC, qI, qNeg, qLen, wNext, takesOf, take_al, take_t, takeO_iL, frzsOf, frzOf, datsOf, datOf, on1, on2, put_t, put_al, putO_iL, toD_iL, toD_d, flat_iL, flat_d, lst_nil, lst_one, lst_iE, lst_iD, nil_dT, nil_dL, fList_dL, fList_dT, fTuple_dL, fTuple_dT, fLen_dL, fLen_dT, fSum_dL, fCat_dL, fCat_int, fRep_dL, fRep_int, fSub_int, fMod_int, fDiv_int, fLt_int, fLe_int, fGt_int, fGe_int, fNeg_int, fAbs_int, fMax2_int, fMin2_int, fInt_int, fInt_bool, fSl_dL, fSl_dT, fSl3_dL, fSl3_dT, fEq_int, fNe_int, fEq_dL, fNe_dL, fEq_dT, fNe_dT, items_dL, items_dT, wSl, wSl3, wNo, wPart, wSq_eq, sqK_t, sqK_al, sqO_iL, qIx_eq, qIxK, lstAt_eq, lstO_iL, DL.placeOf, T.get, core_d, re_iL, re_d, T.put, List.getElem?_cons_zero, List.getElem?_cons_succ, List.set_cons_zero, List.set_cons_succ, List.length_cons, List.length_nil, iD_len, iE_len, and_true, true_and, Bool.not_true, Bool.not_false, if_true, if_false, Bool.false_eq_true, decide_eq_true_eq, Bool.not_eq_true', decide_eq_false_iff_not, wFor, wRng1, wRng2, wRng3, wName, endsD, startG, List.map_cons, List.map_nil, List.replicate, List.cons_append, List.nil_append, look, wCall, Option.some.injEq, exists_eq_left', wPar, DL.putAt, wSetQ, wApp_eq, appO_iL, isLst_iL, wPop_eq, popO_iL, Nat.zero_le, not_true_eq_false, not_false_eq_true, wLc, wipeG, restG, toD_iLL, varK_iLL, qvO_iLL, lstO_iLL, re_iLL, lst_iLL, items_tT, items_tL, takeO_iLL, putO_iLL, sqO_iLL, keepD_iLL, wZp, keepD_none, keepD_d, keepD_iL, items_tup, items_lst, wYes, wTTup, wTCons, wTNil, Int.toNat_natCast]
    refine ⟨by decide, ⟨by omega, by omega⟩, by rw [rangeD_len]; exact le1000 (by omega), ?_⟩
    refine draw_row ho hq (by omega) fun o q' xs h1 h2 h3 h4 h5 => ?_
    simp only [wSeq, wSet, wAsg, wExpr, wRet, wIf, wTest, wNotT, wAndT, wOrT, wIfE, w1, w2, wn, wNil, wCons, wVar, varK_iL, varK_d, wC, wLst, wTup, wQ, qVar_eq, qvO_iL, qvO_d, qC, qI, qNeg, qLen, wNext, takesOf, take_al, take_t, takeO_iL, frzsOf, frzOf, datsOf, datOf, on1, on2, put_t, put_al, putO_iL, toD_iL, toD_d, flat_iL, flat_d, lst_nil, lst_one, lst_iE, lst_iD, nil_dT, nil_dL, fList_dL, fList_dT, fTuple_dL, fTuple_dT, fLen_dL, fLen_dT, fSum_dL, fCat_dL, fCat_int, fRep_dL, fRep_int, fSub_int, fMod_int, fDiv_int, fLt_int, fLe_int, fGt_int, fGe_int, fNeg_int, fAbs_int, fMax2_int, fMin2_int, fInt_int, fInt_bool, fSl_dL, fSl_dT, fSl3_dL, fSl3_dT, fEq_int, fNe_int, fEq_dL, fNe_dL, fEq_dT, fNe_dT, items_dL, items_dT, wSl, wSl3, wNo, wPart, wSq_eq, sqK_t, sqK_al, sqO_iL, qIx_eq, qIxK, lstAt_eq, lstO_iL, DL.placeOf, T.get, core_d, re_iL, re_d, T.put, List.getElem?_cons_zero, List.getElem?_cons_succ, List.set_cons_zero, List.set_cons_succ, List.length_cons, List.length_nil, iD_len, iE_len, and_true, true_and, Bool.not_true, Bool.not_false, if_true, if_false, Bool.false_eq_true, decide_eq_true_eq, Bool.not_eq_true', decide_eq_false_iff_not, wFor, wRng1, wRng2, wRng3, wName, endsD, startG, List.map_cons, List.map_nil, List.replicate, List.cons_append, List.nil_append, look, wCall, Option.some.injEq, exists_eq_left', wPar, DL.putAt, wSetQ, wApp_eq, appO_iL, isLst_iL, wPop_eq, popO_iL, Nat.zero_le, not_true_eq_false, not_false_eq_true, wLc, wipeG, restG, toD_iLL, varK_iLL, qvO_iLL, lstO_iLL, re_iLL, lst_iLL, items_tT, items_tL, takeO_iLL, putO_iLL, sqO_iLL, keepD_iLL, wZp, keepD_none, keepD_d, keepD_iL, items_tup, items_lst, wYes, wTTup, wTCons, wTNil]
    refine hR _ _ ⟨o, q', B ++ [xs], h1, h2, by omega, by rw [List.length_append, hl]; rfl, fun r hr => ?_, by rw [List.map_append]; rfl, rfl⟩
    rcases List.mem_append.mp hr with hr | hr
    · exact hB r hr
    · rw [List.mem_singleton.mp hr]
      exact ⟨h4, h5⟩
  · obtain ⟨o, q, B, ho, hq, ht', hl, hB, rfl, rfl⟩ := hI
    rw [rangeD_len, Nat.zero_add] at hl
    rw [rangeD_len, Nat.zero_add] at ht'
    exact hk o q B ho hq ht' hl hB
theorem natsI_get {l : List Nat} {j m : Nat} (h : l[j]? = some m) : (natsI l)[j]? = some (m : Int) := by
  unfold natsI
  rw [List.getElem?_map, h]
  rfl
theorem natsI_len {l : List Nat} : (natsI l).length = l.length := List.length_map ..
theorem natsI_erase {l : List Nat} {j : Nat} : (natsI l).eraseIdx j = natsI (l.eraseIdx j) := by
  unfold natsI
  induction l generalizing j with
  | nil => rfl
  | cons x xs ih =>
    cases j with
    | zero => rfl
    | succ j => simp only [List.map_cons, List.eraseIdx_cons_succ, ih]
theorem natsI_app {l m : List Nat} : natsI l ++ natsI m = natsI (l ++ m) := by
  unfold natsI
  rw [List.map_append]
theorem erase_perm : ∀ (l : List Nat) (j : Nat) (h : j < l.length), (l[j] :: l.eraseIdx j).Perm l
  | x :: xs, 0, _ => .refl _
  | x :: xs, j + 1, h => by
    have h : j + 1 < xs.length + 1 := h
    show (xs[j] :: x :: xs.eraseIdx j).Perm (x :: xs)
    exact (List.Perm.swap ..).trans ((erase_perm xs j (by omega)).cons x)
/-- the order -/
theorem draw_order {n : Nat} {k : List T → Gm → Prop} (hn : n ≤ 6) (ho : PenAt none o p) (hp : p.ok) (ht : p.t ≤ 800000000)
    (hk : ∀ (o : T) (q : Pn) (ord : List Nat) (x8 : T), PenAt none o q → q.ok → q.t ≤ p.t + n → ord.Perm (List.range n) → k (iE (natsI ord)) (LG ns o x2 x3 x4 x5 x7 (some x8) x9 x11 x12 x13 x14 x16 x17)) :
    lcW (wName 10) wYes E_law_4 [10] (rangeD 0 n) [] (LG ns o x2 x3 x4 x5 x7 (some (iL (natsI (List.range n)))) x9 x11 x12 x13 x14 x16 x17) k := by
  refine lcW_inv (fun i acc G => ∃ o q ord left, PenAt none o q ∧ q.ok ∧ q.t ≤ p.t + i ∧ ord.length = i ∧ (ord ++ left).Perm (List.range n) ∧ acc = iE (natsI ord) ∧ G = LG ns o x2 x3 x4 x5 x7 (some (iL (natsI left))) x9 x11 x12 x13 x14 x16 x17)
    (rangeD 0 n) 0 [] _ ⟨o, p, [], List.range n, ho, hp, by omega, rfl, .refl _, rfl, rfl⟩ (fun i x acc G hx hI R hR => ?_) (fun acc G hI => ?_)
  · obtain ⟨hi, rfl⟩ := rangeD_at hx
    obtain ⟨o, q, ord, left, ho, hq, ht', hl, hP, rfl, rfl⟩ := hI
    have hll : i + left.length = n := by
      have := hP.length_eq
      rw [List.length_append, List.length_range, Nat.zero_add] at *
      omega
    simp only [E_law_4, wPopAt, wSeq, wSet, wAsg, wExpr, wRet, wIf, wTest, wNotT, wAndT, wOrT, wIfE, w1, w2, wn, wNil, wCons, wVar, varK_iL, varK_d, wC, wLst, wTup, wQ, qVar_eq, qvO_iL, qvO_d, qC, qI, qNeg, qLen, wNext, takesOf, take_al, take_t, takeO_iL, frzsOf, frzOf, datsOf, datOf, on1, on2, put_t, put_al, putO_iL, toD_iL, toD_d, flat_iL, flat_d, lst_nil, lst_one, lst_iE, lst_iD, nil_dT, nil_dL, fList_dL, fList_dT, fTuple_dL, fTuple_dT, fLen_dL, fLen_dT, fSum_dL, fCat_dL, fCat_int, fRep_dL, fRep_int, fSub_int, fMod_int, fDiv_int, fLt_int, fLe_int, fGt_int, fGe_int, fNeg_int, fAbs_int, fMax2_int, fMin2_int, fInt_int, fInt_bool, fSl_dL, fSl_dT, fSl3_dL, fSl3_dT, fEq_int, fNe_int, fEq_dL, fNe_dL, fEq_dT, fNe_dT, items_dL, items_dT, wSl, wSl3, wNo, wPart, wSq_eq, sqK_t, sqK_al, sqO_iL, qIx_eq, qIxK, lstAt_eq, lstO_iL, DL.placeOf, T.get, core_d, re_iL, re_d, T.put, List.getElem?_cons_zero, List.getElem?_cons_succ, List.set_cons_zero, List.set_cons_succ, List.length_cons, List.length_nil, iD_len, iE_len, and_true, true_and, Bool.not_true, Bool.not_false, if_true, if_false, Bool.false_eq_true, decide_eq_true_eq, Bool.not_eq_true', decide_eq_false_iff_not, wFor, wRng1, wRng2, wRng3, wName, endsD, startG, List.map_cons, List.map_nil, List.replicate, List.cons_append, List.nil_append, look, wCall, Option.some.injEq, exists_eq_left', wPar, DL.putAt, wSetQ, wApp_eq, appO_iL, isLst_iL, wPop_eq, popO_iL, Nat.zero_le, not_true_eq_false, not_false_eq_true, wLc, wipeG, restG, toD_iLL, varK_iLL, qvO_iLL, lstO_iLL, re_iLL, lst_iLL, items_tT, items_tL, takeO_iLL, putO_iLL, sqO_iLL, keepD_iLL, wZp, keepD_none, keepD_d, keepD_iL, items_tup, items_lst, wYes, wTTup, wTCons, wTNil]
    refine ⟨by decide, ?_⟩
    refine draw_at (z := none) (c := left.length) rfl ho hq (by omega) (by omega) (fun k' h => ?_) fun v q' h1 h2 h3 h4 => ?_
    · simp only [wSeq, wSet, wAsg, wExpr, wRet, wIf, wTest, wNotT, wAndT, wOrT, wIfE, w1, w2, wn, wNil, wCons, wVar, varK_iL, varK_d, wC, wLst, wTup, wQ, qVar_eq, qvO_iL, qvO_d, qC, qI, qNeg, qLen, wNext, takesOf, take_al, take_t, takeO_iL, frzsOf, frzOf, datsOf, datOf, on1, on2, put_t, put_al, putO_iL, toD_iL, toD_d, flat_iL, flat_d, lst_nil, lst_one, lst_iE, lst_iD, nil_dT, nil_dL, fList_dL, fList_dT, fTuple_dL, fTuple_dT, fLen_dL, fLen_dT, fSum_dL, fCat_dL, fCat_int, fRep_dL, fRep_int, fSub_int, fMod_int, fDiv_int, fLt_int, fLe_int, fGt_int, fGe_int, fNeg_int, fAbs_int, fMax2_int, fMin2_int, fInt_int, fInt_bool, fSl_dL, fSl_dT, fSl3_dL, fSl3_dT, fEq_int, fNe_int, fEq_dL, fNe_dL, fEq_dT, fNe_dT, items_dL, items_dT, wSl, wSl3, wNo, wPart, wSq_eq, sqK_t, sqK_al, sqO_iL, qIx_eq, qIxK, lstAt_eq, lstO_iL, DL.placeOf, T.get, core_d, re_iL, re_d, T.put, List.getElem?_cons_zero, List.getElem?_cons_succ, List.set_cons_zero, List.set_cons_succ, List.length_cons, List.length_nil, iD_len, iE_len, and_true, true_and, Bool.not_true, Bool.not_false, if_true, if_false, Bool.false_eq_true, decide_eq_true_eq, Bool.not_eq_true', decide_eq_false_iff_not, wFor, wRng1, wRng2, wRng3, wName, endsD, startG, List.map_cons, List.map_nil, List.replicate, List.cons_append, List.nil_append, look, wCall, Option.some.injEq, exists_eq_left', wPar, DL.putAt, wSetQ, wApp_eq, appO_iL, isLst_iL, wPop_eq, popO_iL, Nat.zero_le, not_true_eq_false, not_false_eq_true, wLc, wipeG, restG, toD_iLL, varK_iLL, qvO_iLL, lstO_iLL, re_iLL, lst_iLL, items_tT, items_tL, takeO_iLL, putO_iLL, sqO_iLL, keepD_iLL, wZp, keepD_none, keepD_d, keepD_iL, items_tup, items_lst, wYes, wTTup, wTCons, wTNil, natsI_len]
      exact h
    · obtain ⟨j, rfl⟩ : ∃ j : Nat, v = (j : Int) := ⟨v.toNat, by omega⟩
      have hj : j < left.length := by omega
      have hg := List.getElem?_eq_getElem hj
      have e1 : ixN (iE (natsI left)).length (j : Int) = some j := ixN_of rfl (by rw [iE_len, natsI_len]; exact hj)
      have e2 := iE_get (natsI_get hg)
      simp only [wSeq, wSet, wAsg, wExpr, wRet, wIf, wTest, wNotT, wAndT, wOrT, wIfE, w1, w2, wn, wNil, wCons, wVar, varK_iL, varK_d, wC, wLst, wTup, wQ, qVar_eq, qvO_iL, qvO_d, qC, qI, qNeg, qLen, wNext, takesOf, take_al, take_t, takeO_iL, frzsOf, frzOf, datsOf, datOf, on1, on2, put_t, put_al, putO_iL, toD_iL, toD_d, flat_iL, flat_d, lst_nil, lst_one, lst_iE, lst_iD, nil_dT, nil_dL, fList_dL, fList_dT, fTuple_dL, fTuple_dT, fLen_dL, fLen_dT, fSum_dL, fCat_dL, fCat_int, fRep_dL, fRep_int, fSub_int, fMod_int, fDiv_int, fLt_int, fLe_int, fGt_int, fGe_int, fNeg_int, fAbs_int, fMax2_int, fMin2_int, fInt_int, fInt_bool, fSl_dL, fSl_dT, fSl3_dL, fSl3_dT, fEq_int, fNe_int, fEq_dL, fNe_dL, fEq_dT, fNe_dT, items_dL, items_dT, wSl, wSl3, wNo, wPart, wSq_eq, sqK_t, sqK_al, sqO_iL, qIx_eq, qIxK, lstAt_eq, lstO_iL, DL.placeOf, T.get, core_d, re_iL, re_d, T.put, List.getElem?_cons_zero, List.getElem?_cons_succ, List.set_cons_zero, List.set_cons_succ, List.length_cons, List.length_nil, iD_len, iE_len, and_true, true_and, Bool.not_true, Bool.not_false, if_true, if_false, Bool.false_eq_true, decide_eq_true_eq, Bool.not_eq_true', decide_eq_false_iff_not, wFor, wRng1, wRng2, wRng3, wName, endsD, startG, List.map_cons, List.map_nil, List.replicate, List.cons_append, List.nil_append, look, wCall, Option.some.injEq, exists_eq_left', wPar, DL.putAt, wSetQ, wApp_eq, appO_iL, isLst_iL, wPop_eq, popO_iL, Nat.zero_le, not_true_eq_false, not_false_eq_true, wLc, wipeG, restG, toD_iLL, varK_iLL, qvO_iLL, lstO_iLL, re_iLL, lst_iLL, items_tT, items_tL, takeO_iLL, putO_iLL, sqO_iLL, keepD_iLL, wZp, keepD_none, keepD_d, keepD_iL, items_tup, items_lst, wYes, wTTup, wTCons, wTNil]
      simp only [iL, e1, e2, iE_erase, natsI_erase]
      refine ⟨⟨by omega, by omega⟩, ?_⟩
      simp only [wSeq, wSet, wAsg, wExpr, wRet, wIf, wTest, wNotT, wAndT, wOrT, wIfE, w1, w2, wn, wNil, wCons, wVar, varK_iL, varK_d, wC, wLst, wTup, wQ, qVar_eq, qvO_iL, qvO_d, qC, qI, qNeg, qLen, wNext, takesOf, take_al, take_t, takeO_iL, frzsOf, frzOf, datsOf, datOf, on1, on2, put_t, put_al, putO_iL, toD_iL, toD_d, flat_iL, flat_d, lst_nil, lst_one, lst_iE, lst_iD, nil_dT, nil_dL, fList_dL, fList_dT, fTuple_dL, fTuple_dT, fLen_dL, fLen_dT, fSum_dL, fCat_dL, fCat_int, fRep_dL, fRep_int, fSub_int, fMod_int, fDiv_int, fLt_int, fLe_int, fGt_int, fGe_int, fNeg_int, fAbs_int, fMax2_int, fMin2_int, fInt_int, fInt_bool, fSl_dL, fSl_dT, fSl3_dL, fSl3_dT, fEq_int, fNe_int, fEq_dL, fNe_dL, fEq_dT, fNe_dT, items_dL, items_dT, wSl, wSl3, wNo, wPart, wSq_eq, sqK_t, sqK_al, sqO_iL, qIx_eq, qIxK, lstAt_eq, lstO_iL, DL.placeOf, T.get, core_d, re_iL, re_d, T.put, List.getElem?_cons_zero, List.getElem?_cons_succ, List.set_cons_zero, List.set_cons_succ, List.length_cons, List.length_nil, iD_len, iE_len, and_true, true_and, Bool.not_true, Bool.not_false, if_true, if_false, Bool.false_eq_true, decide_eq_true_eq, Bool.not_eq_true', decide_eq_false_iff_not, wFor, wRng1, wRng2, wRng3, wName, endsD, startG, List.map_cons, List.map_nil, List.replicate, List.cons_append, List.nil_append, look, wCall, Option.some.injEq, exists_eq_left', wPar, DL.putAt, wSetQ, wApp_eq, appO_iL, isLst_iL, wPop_eq, popO_iL, Nat.zero_le, not_true_eq_false, not_false_eq_true, wLc, wipeG, restG, toD_iLL, varK_iLL, qvO_iLL, lstO_iLL, re_iLL, lst_iLL, items_tT, items_tL, takeO_iLL, putO_iLL, sqO_iLL, keepD_iLL, wZp, keepD_none, keepD_d, keepD_iL, items_tup, items_lst, wYes, wTTup, wTCons, wTNil, iE_app]
      refine hR _ _ ⟨_, q', ord ++ [left[j]], left.eraseIdx j, ho.re, h3, by omega, by rw [List.length_append, hl]; rfl, ?_, ?_, rfl⟩
      · refine List.Perm.trans ?_ hP
        rw [List.append_assoc]
        exact List.Perm.append_left _ (erase_perm left j hj)
      · rw [← natsI_app]
        rfl
  · obtain ⟨o, q, ord, left, ho, hq, ht', hl, hP, rfl, rfl⟩ := hI
    rw [rangeD_len, Nat.zero_add] at hl ht'
    have hll : left = [] := by
      have := hP.length_eq
      rw [List.length_append, List.length_range] at this
      exact List.eq_nil_of_length_eq_zero (by omega)
    subst hll
    rw [List.append_nil] at hP
    exact hk o q ord _ ho hq (by omega) hP
end
end RT
end
section
set_option autoImplicit false
namespace RT
open PySem PySem.Spec PyProof.Rows L2 DL
def LP1 : WS := (wSeq (wSet 3 (wCallO S__law_ttable 1 (wCons (wC (.int 6)) (wCons (wC (.int 3)) wNil)))) (wSeq (wSet 4 (wQ (qLen (qVar 3)))) (wSeq (wSet 5 (wn (wCons (wLc (wSq (wVar 3)) (wName 6) wYes E_law_6 [6]) wNil) (on1 fTuple))) (wSeq (wSet 7 (wn (wCons (wLc (wSq (wVar 3)) (wName 6) wYes E_law_5 [6]) wNil) (on1 fTuple))) (wSeq (wSet 8 (wLstRg (wVar 4))) (wSet 9 (wLc (wRng1 (wCons (wVar 4) wNil)) (wName 10) wYes E_law_4 [10])))))))
def LP2 : WS := (wSeq (wSet 11 (wCall S__law_tput (wCons (wLc (wSq (wVar 3)) (wName 6) wYes E_law_3 [6]) (wCons (wVar 9) wNil)))) (wSeq (wSet 12 (wTup (wCons (wCall S_own_poly (wCons (wVar 3) wNil)) (wCons (wCall S_row_of (wCons (wVar 3) (wCons (wVar 5) (wCons (wVar 7) wNil)))) (wCons (wCall S_traces (wCons (wVar 3) wNil)) wNil))))) (wSeq (wSet 13 (wCall S__law_tturned (wCons (wVar 3) wNil))) (wIf (wTest (w2 (wTup (wCons (wCall S_own_poly (wCons (wVar 13) wNil)) (wCons (wCall S_row_of (wCons (wVar 13) (wCons (wVar 7) (wCons (wVar 5) wNil)))) (wCons (wCall S_traces (wCons (wVar 13) wNil)) wNil)))) (wVar 12) fNe)) (wRet (wC (.bool false))) wNext))))
def LP3 : WS := (wSeq (wPar 5 7 (wCons (wCall S__law_tput (wCons (wVar 5) (wCons (wVar 9) wNil))) (wCons (wCall S__law_tput (wCons (wVar 7) (wCons (wVar 9) wNil))) wNil))) (wIf (wTest (w2 (wTup (wCons (wCall S_own_poly (wCons (wVar 11) wNil)) (wCons (wCall S_row_of (wCons (wVar 11) (wCons (wVar 5) (wCons (wVar 7) wNil)))) (wCons (wCall S_traces (wCons (wVar 11) wNil)) wNil)))) (wVar 12) fNe)) (wRet (wC (.bool false))) wNext))
def LP4 : WS := (wSeq (wSet 14 (wn (wCons (wLc (wRng1 (wCons (wVar 4) wNil)) (wName 10) wYes E_law_2 [10]) wNil) (on1 fTuple))) (wSeq (wPar 16 17 (wCons (wCall S__law_tproduct (wCons (wVar 3) (wCons (wVar 14) wNil))) (wCons (wCall S__law_tproduct (wCons (wVar 14) (wCons (wVar 3) wNil))) wNil))) (wIf (wOrT (wTest (w2 (wCall S_own_poly (wCons (wVar 16) wNil)) (wCall S_own_poly (wCons (wVar 17) wNil)) fNe)) (wTest (w2 (wCall S_traces (wCons (wVar 16) wNil)) (wCall S_traces (wCons (wVar 17) wNil)) fNe))) (wRet (wC (.bool false))) wNext)))
theorem wSeq_assoc {a b c : WS} : wSeq (wSeq a b) c = wSeq a (wSeq b c) := rfl
theorem lp_is : B_law_7 = wSeq LP1 (wSeq LP2 (wSeq LP3 LP4)) := by
  unfold B_law_7 LP1 LP2 LP3 LP4
  simp only [wSeq_assoc]
section
variable {ns : List Int} {o : T} {p : Pn} {x2 x3 x4 x5 x7 x8 x9 x11 x12 x13 x14 x16 x17 : Option T} {D : DEnds}
/-- begin or weights -/
def isVec (n : Nat) (b : List Int) : Prop := b.length = n ∧ ∀ x ∈ b, -5 ≤ x ∧ x ≤ 5
theorem lp1 (ho : PenAt none o p) (hp : p.ok) (ht : p.t ≤ 100000000)
    (h : ∀ (o : T) (q : Pn) (n : Nat) (A : List (List Int)) (b w : List Int) (ord : List Nat) (x8 : T), PenAt none o q → q.ok → q.t ≤ p.t + 2000 → 1 ≤ n → n ≤ 6 → isTab n 3 A → isVec n b → isVec n w → ord.Perm (List.range n) →
      D.nx (LG ns o x2 (some (.d (tT A))) (some (.d (.int n))) (some (.d (dT b))) (some (.d (dT w))) (some x8) (some (iL (natsI ord))) x11 x12 x13 x14 x16 x17)) : LP1 D (LG ns o x2 x3 x4 x5 x7 x8 x9 x11 x12 x13 x14 x16 x17) := by
  simp only [LP1, wSeq, wSet, wAsg, wExpr, wRet, wIf, wTest, wNotT, wAndT, wOrT, wIfE, w1, w2, wn, wNil, wCons, wVar, varK_iL, varK_d, wC, wLst, wTup, wQ, qVar_eq, qvO_iL, qvO_d, qC, qI, qNeg, qLen, wNext, takesOf, take_al, take_t, takeO_iL, frzsOf, frzOf, datsOf, datOf, on1, on2, put_t, put_al, putO_iL, toD_iL, toD_d, flat_iL, flat_d, lst_nil, lst_one, lst_iE, lst_iD, nil_dT, nil_dL, fList_dL, fList_dT, fTuple_dL, fTuple_dT, fLen_dL, fLen_dT, fSum_dL, fCat_dL, fCat_int, fRep_dL, fRep_int, fSub_int, fMod_int, fDiv_int, fLt_int, fLe_int, fGt_int, fGe_int, fNeg_int, fAbs_int, fMax2_int, fMin2_int, fInt_int, fInt_bool, fSl_dL, fSl_dT, fSl3_dL, fSl3_dT, fEq_int, fNe_int, fEq_dL, fNe_dL, fEq_dT, fNe_dT, items_dL, items_dT, wSl, wSl3, wNo, wPart, wSq_eq, sqK_t, sqK_al, sqO_iL, qIx_eq, qIxK, lstAt_eq, lstO_iL, DL.placeOf, T.get, core_d, re_iL, re_d, T.put, List.getElem?_cons_zero, List.getElem?_cons_succ, List.set_cons_zero, List.set_cons_succ, List.length_cons, List.length_nil, iD_len, iE_len, and_true, true_and, Bool.not_true, Bool.not_false, if_true, if_false, Bool.false_eq_true, decide_eq_true_eq, Bool.not_eq_true', decide_eq_false_iff_not, wFor, wRng1, wRng2, wRng3, wName, endsD, startG, List.map_cons, List.map_nil, List.replicate, List.cons_append, List.nil_append, look, wCall, Option.some.injEq, exists_eq_left', wPar, DL.putAt, wSetQ, wApp_eq, appO_iL, isLst_iL, wPop_eq, popO_iL, Nat.zero_le, not_true_eq_false, not_false_eq_true, wLc, wipeG, restG, toD_iLL, varK_iLL, qvO_iLL, lstO_iLL, re_iLL, lst_iLL, items_tT, items_tL, takeO_iLL, putO_iLL, sqO_iLL, keepD_iLL, wZp, keepD_none, keepD_d, keepD_iL, items_tup, items_lst, wYes, wTTup, wTCons, wTNil]
  refine table_at (z := none) (most := 6) (c := 3) rfl ho hp (by omega) (by decide) (by decide) (by decide) (by decide) (fun k' h => ?_) fun n A q1 h1 h2 h3 h4 h5 => ?_
  · simp only [wSeq, wSet, wAsg, wExpr, wRet, wIf, wTest, wNotT, wAndT, wOrT, wIfE, w1, w2, wn, wNil, wCons, wVar, varK_iL, varK_d, wC, wLst, wTup, wQ, qVar_eq, qvO_iL, qvO_d, qC, qI, qNeg, qLen, wNext, takesOf, take_al, take_t, takeO_iL, frzsOf, frzOf, datsOf, datOf, on1, on2, put_t, put_al, putO_iL, toD_iL, toD_d, flat_iL, flat_d, lst_nil, lst_one, lst_iE, lst_iD, nil_dT, nil_dL, fList_dL, fList_dT, fTuple_dL, fTuple_dT, fLen_dL, fLen_dT, fSum_dL, fCat_dL, fCat_int, fRep_dL, fRep_int, fSub_int, fMod_int, fDiv_int, fLt_int, fLe_int, fGt_int, fGe_int, fNeg_int, fAbs_int, fMax2_int, fMin2_int, fInt_int, fInt_bool, fSl_dL, fSl_dT, fSl3_dL, fSl3_dT, fEq_int, fNe_int, fEq_dL, fNe_dL, fEq_dT, fNe_dT, items_dL, items_dT, wSl, wSl3, wNo, wPart, wSq_eq, sqK_t, sqK_al, sqO_iL, qIx_eq, qIxK, lstAt_eq, lstO_iL, DL.placeOf, T.get, core_d, re_iL, re_d, T.put, List.getElem?_cons_zero, List.getElem?_cons_succ, List.set_cons_zero, List.set_cons_succ, List.length_cons, List.length_nil, iD_len, iE_len, and_true, true_and, Bool.not_true, Bool.not_false, if_true, if_false, Bool.false_eq_true, decide_eq_true_eq, Bool.not_eq_true', decide_eq_false_iff_not, wFor, wRng1, wRng2, wRng3, wName, endsD, startG, List.map_cons, List.map_nil, List.replicate, List.cons_append, List.nil_append, look, wCall, Option.some.injEq, exists_eq_left', wPar, DL.putAt, wSetQ, wApp_eq, appO_iL, isLst_iL, wPop_eq, popO_iL, Nat.zero_le, not_true_eq_false, not_false_eq_true, wLc, wipeG, restG, toD_iLL, varK_iLL, qvO_iLL, lstO_iLL, re_iLL, lst_iLL, items_tT, items_tL, takeO_iLL, putO_iLL, sqO_iLL, keepD_iLL, wZp, keepD_none, keepD_d, keepD_iL, items_tup, items_lst, wYes, wTTup, wTCons, wTNil]
    exact h
  have hA : A.length = n := h3.1
  simp only [wSeq, wSet, wAsg, wExpr, wRet, wIf, wTest, wNotT, wAndT, wOrT, wIfE, w1, w2, wn, wNil, wCons, wVar, varK_iL, varK_d, wC, wLst, wTup, wQ, qVar_eq, qvO_iL, qvO_d, qC, qI, qNeg, qLen, wNext, takesOf, take_al, take_t, takeO_iL, frzsOf, frzOf, datsOf, datOf, on1, on2, put_t, put_al, putO_iL, toD_iL, toD_d, flat_iL, flat_d, lst_nil, lst_one, lst_iE, lst_iD, nil_dT, nil_dL, fList_dL, fList_dT, fTuple_dL, fTuple_dT, fLen_dL, fLen_dT, fSum_dL, fCat_dL, fCat_int, fRep_dL, fRep_int, fSub_int, fMod_int, fDiv_int, fLt_int, fLe_int, fGt_int, fGe_int, fNeg_int, fAbs_int, fMax2_int, fMin2_int, fInt_int, fInt_bool, fSl_dL, fSl_dT, fSl3_dL, fSl3_dT, fEq_int, fNe_int, fEq_dL, fNe_dL, fEq_dT, fNe_dT, items_dL, items_dT, wSl, wSl3, wNo, wPart, wSq_eq, sqK_t, sqK_al, sqO_iL, qIx_eq, qIxK, lstAt_eq, lstO_iL, DL.placeOf, T.get, core_d, re_iL, re_d, T.put, List.getElem?_cons_zero, List.getElem?_cons_succ, List.set_cons_zero, List.set_cons_succ, List.length_cons, List.length_nil, iD_len, iE_len, and_true, true_and, Bool.not_true, Bool.not_false, if_true, if_false, Bool.false_eq_true, decide_eq_true_eq, Bool.not_eq_true', decide_eq_false_iff_not, wFor, wRng1, wRng2, wRng3, wName, endsD, startG, List.map_cons, List.map_nil, List.replicate, List.cons_append, List.nil_append, look, wCall, Option.some.injEq, exists_eq_left', wPar, DL.putAt, wSetQ, wApp_eq, appO_iL, isLst_iL, wPop_eq, popO_iL, Nat.zero_le, not_true_eq_false, not_false_eq_true, wLc, wipeG, restG, toD_iLL, varK_iLL, qvO_iLL, lstO_iLL, re_iLL, lst_iLL, items_tT, items_tL, takeO_iLL, putO_iLL, sqO_iLL, keepD_iLL, wZp, keepD_none, keepD_d, keepD_iL, items_tup, items_lst, wYes, wTTup, wTCons, wTNil, List.length_map, hA]
  refine ⟨by decide, by decide, le1000 (by omega), ?_⟩
  refine draw_vec (ho.re (q := q1)) h4 (by omega) rfl fun o q2 b a1 a2 a3 a4 a5 => ?_
  simp only [wSeq, wSet, wAsg, wExpr, wRet, wIf, wTest, wNotT, wAndT, wOrT, wIfE, w1, w2, wn, wNil, wCons, wVar, varK_iL, varK_d, wC, wLst, wTup, wQ, qVar_eq, qvO_iL, qvO_d, qC, qI, qNeg, qLen, wNext, takesOf, take_al, take_t, takeO_iL, frzsOf, frzOf, datsOf, datOf, on1, on2, put_t, put_al, putO_iL, toD_iL, toD_d, flat_iL, flat_d, lst_nil, lst_one, lst_iE, lst_iD, nil_dT, nil_dL, fList_dL, fList_dT, fTuple_dL, fTuple_dT, fLen_dL, fLen_dT, fSum_dL, fCat_dL, fCat_int, fRep_dL, fRep_int, fSub_int, fMod_int, fDiv_int, fLt_int, fLe_int, fGt_int, fGe_int, fNeg_int, fAbs_int, fMax2_int, fMin2_int, fInt_int, fInt_bool, fSl_dL, fSl_dT, fSl3_dL, fSl3_dT, fEq_int, fNe_int, fEq_dL, fNe_dL, fEq_dT, fNe_dT, items_dL, items_dT, wSl, wSl3, wNo, wPart, wSq_eq, sqK_t, sqK_al, sqO_iL, qIx_eq, qIxK, lstAt_eq, lstO_iL, DL.placeOf, T.get, core_d, re_iL, re_d, T.put, List.getElem?_cons_zero, List.getElem?_cons_succ, List.set_cons_zero, List.set_cons_succ, List.length_cons, List.length_nil, iD_len, iE_len, and_true, true_and, Bool.not_true, Bool.not_false, if_true, if_false, Bool.false_eq_true, decide_eq_true_eq, Bool.not_eq_true', decide_eq_false_iff_not, wFor, wRng1, wRng2, wRng3, wName, endsD, startG, List.map_cons, List.map_nil, List.replicate, List.cons_append, List.nil_append, look, wCall, Option.some.injEq, exists_eq_left', wPar, DL.putAt, wSetQ, wApp_eq, appO_iL, isLst_iL, wPop_eq, popO_iL, Nat.zero_le, not_true_eq_false, not_false_eq_true, wLc, wipeG, restG, toD_iLL, varK_iLL, qvO_iLL, lstO_iLL, re_iLL, lst_iLL, items_tT, items_tL, takeO_iLL, putO_iLL, sqO_iLL, keepD_iLL, wZp, keepD_none, keepD_d, keepD_iL, items_tup, items_lst, wYes, wTTup, wTCons, wTNil, List.length_map, hA]
  refine ⟨by decide, le1000 (by omega), ?_⟩
  refine draw_vec a1 a2 (by omega) rfl fun o q3 w b1 b2 b3 b4 b5 => ?_
  simp only [wLstRg, rangeD_nats, lst_iD, wSeq, wSet, wAsg, wExpr, wRet, wIf, wTest, wNotT, wAndT, wOrT, wIfE, w1, w2, wn, wNil, wCons, wVar, varK_iL, varK_d, wC, wLst, wTup, wQ, qVar_eq, qvO_iL, qvO_d, qC, qI, qNeg, qLen, wNext, takesOf, take_al, take_t, takeO_iL, frzsOf, frzOf, datsOf, datOf, on1, on2, put_t, put_al, putO_iL, toD_iL, toD_d, flat_iL, flat_d, lst_nil, lst_one, lst_iE, lst_iD, nil_dT, nil_dL, fList_dL, fList_dT, fTuple_dL, fTuple_dT, fLen_dL, fLen_dT, fSum_dL, fCat_dL, fCat_int, fRep_dL, fRep_int, fSub_int, fMod_int, fDiv_int, fLt_int, fLe_int, fGt_int, fGe_int, fNeg_int, fAbs_int, fMax2_int, fMin2_int, fInt_int, fInt_bool, fSl_dL, fSl_dT, fSl3_dL, fSl3_dT, fEq_int, fNe_int, fEq_dL, fNe_dL, fEq_dT, fNe_dT, items_dL, items_dT, wSl, wSl3, wNo, wPart, wSq_eq, sqK_t, sqK_al, sqO_iL, qIx_eq, qIxK, lstAt_eq, lstO_iL, DL.placeOf, T.get, core_d, re_iL, re_d, T.put, List.getElem?_cons_zero, List.getElem?_cons_succ, List.set_cons_zero, List.set_cons_succ, List.length_cons, List.length_nil, iD_len, iE_len, and_true, true_and, Bool.not_true, Bool.not_false, if_true, if_false, Bool.false_eq_true, decide_eq_true_eq, Bool.not_eq_true', decide_eq_false_iff_not, wFor, wRng1, wRng2, wRng3, wName, endsD, startG, List.map_cons, List.map_nil, List.replicate, List.cons_append, List.nil_append, look, wCall, Option.some.injEq, exists_eq_left', wPar, DL.putAt, wSetQ, wApp_eq, appO_iL, isLst_iL, wPop_eq, popO_iL, Nat.zero_le, not_true_eq_false, not_false_eq_true, wLc, wipeG, restG, toD_iLL, varK_iLL, qvO_iLL, lstO_iLL, re_iLL, lst_iLL, items_tT, items_tL, takeO_iLL, putO_iLL, sqO_iLL, keepD_iLL, wZp, keepD_none, keepD_d, keepD_iL, items_tup, items_lst, wYes, wTTup, wTCons, wTNil, Int.toNat_natCast]
  refine ⟨by decide, by omega, by omega, by decide, ⟨by omega, by omega⟩, by rw [natsI_len, List.length_range]; exact le1000 (by omega), ?_⟩
  rw [← rangeD_nats]
  refine draw_order (by omega) b1 b2 (by omega) fun o q4 ord x8 c1 c2 c3 c4 => ?_
  simp only [wSeq, wSet, wAsg, wExpr, wRet, wIf, wTest, wNotT, wAndT, wOrT, wIfE, w1, w2, wn, wNil, wCons, wVar, varK_iL, varK_d, wC, wLst, wTup, wQ, qVar_eq, qvO_iL, qvO_d, qC, qI, qNeg, qLen, wNext, takesOf, take_al, take_t, takeO_iL, frzsOf, frzOf, datsOf, datOf, on1, on2, put_t, put_al, putO_iL, toD_iL, toD_d, flat_iL, flat_d, lst_nil, lst_one, lst_iE, lst_iD, nil_dT, nil_dL, fList_dL, fList_dT, fTuple_dL, fTuple_dT, fLen_dL, fLen_dT, fSum_dL, fCat_dL, fCat_int, fRep_dL, fRep_int, fSub_int, fMod_int, fDiv_int, fLt_int, fLe_int, fGt_int, fGe_int, fNeg_int, fAbs_int, fMax2_int, fMin2_int, fInt_int, fInt_bool, fSl_dL, fSl_dT, fSl3_dL, fSl3_dT, fEq_int, fNe_int, fEq_dL, fNe_dL, fEq_dT, fNe_dT, items_dL, items_dT, wSl, wSl3, wNo, wPart, wSq_eq, sqK_t, sqK_al, sqO_iL, qIx_eq, qIxK, lstAt_eq, lstO_iL, DL.placeOf, T.get, core_d, re_iL, re_d, T.put, List.getElem?_cons_zero, List.getElem?_cons_succ, List.set_cons_zero, List.set_cons_succ, List.length_cons, List.length_nil, iD_len, iE_len, and_true, true_and, Bool.not_true, Bool.not_false, if_true, if_false, Bool.false_eq_true, decide_eq_true_eq, Bool.not_eq_true', decide_eq_false_iff_not, wFor, wRng1, wRng2, wRng3, wName, endsD, startG, List.map_cons, List.map_nil, List.replicate, List.cons_append, List.nil_append, look, wCall, Option.some.injEq, exists_eq_left', wPar, DL.putAt, wSetQ, wApp_eq, appO_iL, isLst_iL, wPop_eq, popO_iL, Nat.zero_le, not_true_eq_false, not_false_eq_true, wLc, wipeG, restG, toD_iLL, varK_iLL, qvO_iLL, lstO_iLL, re_iLL, lst_iLL, items_tT, items_tL, takeO_iLL, putO_iLL, sqO_iLL, keepD_iLL, wZp, keepD_none, keepD_d, keepD_iL, items_tup, items_lst, wYes, wTTup, wTCons, wTNil]
  exact ⟨by decide, h o q4 n A b w ord x8 c1 c2 (by omega) h1 (by omega) h3 ⟨by omega, a5⟩ ⟨by omega, b5⟩ c4⟩
/-- what is told of a table -/
def dueD (A : List (List Int)) (b w : List Int) : PyData := .tuple [dT (ownT A), leastD (toldS (ownT A)) ((rwS A b w A.length).2.take ((ownT A).length - 1)), leastD (toldS (ownT A)) ((psL (ownT A) A.length).take ((ownT A).length - 1))]
theorem due_ok {A : List (List Int)} {b w : List Int} : okD (dueD A b w) = true := ok_due
theorem pre_row {n a : Nat} {A : List (List Int)} {b w : List Int} (h6 : n ≤ 6) (ha : a ≤ 6) (hA : sqT n A) (ht : okTab a A) (hb : isVec n b) (hw : isVec n w) : S_row_of.pre (A, b, w) := by
  refine ⟨by show b.length = A.length; rw [hb.1, hA.1], by show w.length = A.length; rw [hw.1, hA.1], a, 3, ht, fun y hy => ?_, fun y hy => ?_, by decide, ?_⟩
  · have := hb.2 y hy
    show y.natAbs ≤ 2 ^ 3
    omega
  · have := hw.2 y hy
    show y.natAbs ≤ 2 ^ 3
    omega
  · show roomT a 3 A.length
    rw [hA.1]
    exact room_of ha (by decide) h6
theorem pre_tr {n a : Nat} {A : List (List Int)} (h6 : n ≤ 6) (ha : a ≤ 6) (hA : sqT n A) (ht : okTab a A) : S_traces.pre A := by
  refine ⟨a, ht, ?_⟩
  rw [hA.1]
  exact room_of ha (by decide) h6
theorem mv_is {n : Nat} {A : List (List Int)} {ord : List Nat} (hA : sqT n A) (ho : ord.Perm (List.range n)) : (ord.map fun k => rowAt (A.map fun r => ord.map fun l => at0 r l) k) = mvT A ord := by
  unfold mvT
  refine List.map_congr_left fun k hk => ?_
  have hk : k < n := List.mem_range.mp (ho.mem_iff.mp hk)
  exact rowAt_map (rowAt_get (by rw [hA.1]; exact hk))
theorem lp2 {n : Nat} {A : List (List Int)} {b w : List Int} {ord : List Nat} (h6 : n ≤ 6) (hA : isTab n 3 A) (hb : isVec n b) (hw : isVec n w) (ho : ord.Perm (List.range n))
    (h : D.nx (LG ns o x2 (some (.d (tT A))) x4 (some (.d (dT b))) (some (.d (dT w))) x8 (some (.d (dL (natsI ord)))) (some (.d (tT (mvT A ord)))) (some (.d (dueD A b w))) (some (.d (tT (turnT A)))) x14 x16 x17)) : LP2 D (LG ns o x2 (some (.d (tT A))) x4 (some (.d (dT b))) (some (.d (dT w))) x8 (some (iL (natsI ord))) x11 x12 x13 x14 x16 x17) := by
  have hsq := hA.sq
  have ht2 : okTab 2 A := okTab_of hsq (by omega) hA.2.2 (by decide) (by decide)
  have tsq := turn_sq hsq
  have tt2 : okTab 2 (turnT A) := okTab_of tsq (by omega) (bq_turn hsq hA.2.2 (by decide)) (by decide) (by decide)
  have hol : ord.length = n := ord_len ho
  have hlt : ∀ k ∈ ord, k < n := fun k hk => List.mem_range.mp (ho.mem_iff.mp hk)
  have edue : dueD (turnT A) w b = dueD A b w := by
    unfold dueD
    rw [own_turn hsq, rw_turn hsq hb.1 hw.1, turn_len]
  simp only [LP2, wSeq, wSet, wAsg, wExpr, wRet, wIf, wTest, wNotT, wAndT, wOrT, wIfE, w1, w2, wn, wNil, wCons, wVar, varK_iL, varK_d, wC, wLst, wTup, wQ, qVar_eq, qvO_iL, qvO_d, qC, qI, qNeg, qLen, wNext, takesOf, take_al, take_t, takeO_iL, frzsOf, frzOf, datsOf, datOf, on1, on2, put_t, put_al, putO_iL, toD_iL, toD_d, flat_iL, flat_d, lst_nil, lst_one, lst_iE, lst_iD, nil_dT, nil_dL, fList_dL, fList_dT, fTuple_dL, fTuple_dT, fLen_dL, fLen_dT, fSum_dL, fCat_dL, fCat_int, fRep_dL, fRep_int, fSub_int, fMod_int, fDiv_int, fLt_int, fLe_int, fGt_int, fGe_int, fNeg_int, fAbs_int, fMax2_int, fMin2_int, fInt_int, fInt_bool, fSl_dL, fSl_dT, fSl3_dL, fSl3_dT, fEq_int, fNe_int, fEq_dL, fNe_dL, fEq_dT, fNe_dT, items_dL, items_dT, wSl, wSl3, wNo, wPart, wSq_eq, sqK_t, sqK_al, sqO_iL, qIx_eq, qIxK, lstAt_eq, lstO_iL, DL.placeOf, T.get, core_d, re_iL, re_d, T.put, List.getElem?_cons_zero, List.getElem?_cons_succ, List.set_cons_zero, List.set_cons_succ, List.length_cons, List.length_nil, iD_len, iE_len, and_true, true_and, Bool.not_true, Bool.not_false, if_true, if_false, Bool.false_eq_true, decide_eq_true_eq, Bool.not_eq_true', decide_eq_false_iff_not, wFor, wRng1, wRng2, wRng3, wName, endsD, startG, List.map_cons, List.map_nil, List.replicate, List.cons_append, List.nil_append, look, wCall, Option.some.injEq, exists_eq_left', wPar, DL.putAt, wSetQ, wApp_eq, appO_iL, isLst_iL, wPop_eq, popO_iL, Nat.zero_le, not_true_eq_false, not_false_eq_true, wLc, wipeG, restG, toD_iLL, varK_iLL, qvO_iLL, lstO_iLL, re_iLL, lst_iLL, items_tT, items_tL, takeO_iLL, putO_iLL, sqO_iLL, keepD_iLL, wZp, keepD_none, keepD_d, keepD_iL, items_tup, items_lst, wYes, wTTup, wTCons, wTNil, List.length_map, hsq.1]
  refine ⟨le1000 (by omega), ?_⟩
  refine lcW_rowsS (fun G => ∃ o9, (o9 = iL (natsI ord) ∨ o9 = .d (dL (natsI ord))) ∧ G = LG ns o x2 (some (.d (tT A))) x4 (some (.d (dT b))) (some (.d (dT w))) x8 (some o9) x11 x12 x13 x14 x16 x17) dT (fun r => .d (dT (ord.map fun l => at0 r l))) A ⟨_, .inl rfl, rfl⟩ (fun r hr G hG R R2 hR => ?_) (fun G hG => ?_)
  · obtain ⟨o9, ho9, rfl⟩ := hG
    have hR' := hR _ ⟨.d (dL (natsI ord)), .inr rfl, rfl⟩
    rcases ho9 with rfl | rfl
    all_goals
      simp only [E_law_3, wSeq, wSet, wAsg, wExpr, wRet, wIf, wTest, wNotT, wAndT, wOrT, wIfE, w1, w2, wn, wNil, wCons, wVar, varK_iL, varK_d, wC, wLst, wTup, wQ, qVar_eq, qvO_iL, qvO_d, qC, qI, qNeg, qLen, wNext, takesOf, take_al, take_t, takeO_iL, frzsOf, frzOf, datsOf, datOf, on1, on2, put_t, put_al, putO_iL, toD_iL, toD_d, flat_iL, flat_d, lst_nil, lst_one, lst_iE, lst_iD, nil_dT, nil_dL, fList_dL, fList_dT, fTuple_dL, fTuple_dT, fLen_dL, fLen_dT, fSum_dL, fCat_dL, fCat_int, fRep_dL, fRep_int, fSub_int, fMod_int, fDiv_int, fLt_int, fLe_int, fGt_int, fGe_int, fNeg_int, fAbs_int, fMax2_int, fMin2_int, fInt_int, fInt_bool, fSl_dL, fSl_dT, fSl3_dL, fSl3_dT, fEq_int, fNe_int, fEq_dL, fNe_dL, fEq_dT, fNe_dT, items_dL, items_dT, wSl, wSl3, wNo, wPart, wSq_eq, sqK_t, sqK_al, sqO_iL, qIx_eq, qIxK, lstAt_eq, lstO_iL, DL.placeOf, T.get, core_d, re_iL, re_d, T.put, List.getElem?_cons_zero, List.getElem?_cons_succ, List.set_cons_zero, List.set_cons_succ, List.length_cons, List.length_nil, iD_len, iE_len, and_true, true_and, Bool.not_true, Bool.not_false, if_true, if_false, Bool.false_eq_true, decide_eq_true_eq, Bool.not_eq_true', decide_eq_false_iff_not, wFor, wRng1, wRng2, wRng3, wName, endsD, startG, List.map_cons, List.map_nil, List.replicate, List.cons_append, List.nil_append, look, wCall, Option.some.injEq, exists_eq_left', wPar, DL.putAt, wSetQ, wApp_eq, appO_iL, isLst_iL, wPop_eq, popO_iL, Nat.zero_le, not_true_eq_false, not_false_eq_true, wLc, wipeG, restG, toD_iLL, varK_iLL, qvO_iLL, lstO_iLL, re_iLL, lst_iLL, items_tT, items_tL, takeO_iLL, putO_iLL, sqO_iLL, keepD_iLL, wZp, keepD_none, keepD_d, keepD_iL, items_tup, items_lst, wYes, wTTup, wTCons, wTNil]
      refine ⟨by decide, (.i r, ord), rfl, ⟨by show ord.length ≤ 1000; omega, fun k hk => by have := hlt k hk; show k < r.length; rw [hsq.2 r hr]; exact this⟩, fun r' hr' => ?_⟩
      have hr' : r' = .d (dT (ord.map fun k => at0 r k)) := hr'
      subst hr'
      try simp only [wSeq, wSet, wAsg, wExpr, wRet, wIf, wTest, wNotT, wAndT, wOrT, wIfE, w1, w2, wn, wNil, wCons, wVar, varK_iL, varK_d, wC, wLst, wTup, wQ, qVar_eq, qvO_iL, qvO_d, qC, qI, qNeg, qLen, wNext, takesOf, take_al, take_t, takeO_iL, frzsOf, frzOf, datsOf, datOf, on1, on2, put_t, put_al, putO_iL, toD_iL, toD_d, flat_iL, flat_d, lst_nil, lst_one, lst_iE, lst_iD, nil_dT, nil_dL, fList_dL, fList_dT, fTuple_dL, fTuple_dT, fLen_dL, fLen_dT, fSum_dL, fCat_dL, fCat_int, fRep_dL, fRep_int, fSub_int, fMod_int, fDiv_int, fLt_int, fLe_int, fGt_int, fGe_int, fNeg_int, fAbs_int, fMax2_int, fMin2_int, fInt_int, fInt_bool, fSl_dL, fSl_dT, fSl3_dL, fSl3_dT, fEq_int, fNe_int, fEq_dL, fNe_dL, fEq_dT, fNe_dT, items_dL, items_dT, wSl, wSl3, wNo, wPart, wSq_eq, sqK_t, sqK_al, sqO_iL, qIx_eq, qIxK, lstAt_eq, lstO_iL, DL.placeOf, T.get, core_d, re_iL, re_d, T.put, List.getElem?_cons_zero, List.getElem?_cons_succ, List.set_cons_zero, List.set_cons_succ, List.length_cons, List.length_nil, iD_len, iE_len, and_true, true_and, Bool.not_true, Bool.not_false, if_true, if_false, Bool.false_eq_true, decide_eq_true_eq, Bool.not_eq_true', decide_eq_false_iff_not, wFor, wRng1, wRng2, wRng3, wName, endsD, startG, List.map_cons, List.map_nil, List.replicate, List.cons_append, List.nil_append, look, wCall, Option.some.injEq, exists_eq_left', wPar, DL.putAt, wSetQ, wApp_eq, appO_iL, isLst_iL, wPop_eq, popO_iL, Nat.zero_le, not_true_eq_false, not_false_eq_true, wLc, wipeG, restG, toD_iLL, varK_iLL, qvO_iLL, lstO_iLL, re_iLL, lst_iLL, items_tT, items_tL, takeO_iLL, putO_iLL, sqO_iLL, keepD_iLL, wZp, keepD_none, keepD_d, keepD_iL, items_tup, items_lst, wYes, wTTup, wTCons, wTNil]
      exact hR'
  · obtain ⟨o9, ho9, rfl⟩ := hG
    have emv := mv_is hsq ho
    rcases ho9 with rfl | rfl
    all_goals
      simp only [wSeq, wSet, wAsg, wExpr, wRet, wIf, wTest, wNotT, wAndT, wOrT, wIfE, w1, w2, wn, wNil, wCons, wVar, varK_iL, varK_d, wC, wLst, wTup, wQ, qVar_eq, qvO_iL, qvO_d, qC, qI, qNeg, qLen, wNext, takesOf, take_al, take_t, takeO_iL, frzsOf, frzOf, datsOf, datOf, on1, on2, put_t, put_al, putO_iL, toD_iL, toD_d, flat_iL, flat_d, lst_nil, lst_one, lst_iE, lst_iD, nil_dT, nil_dL, fList_dL, fList_dT, fTuple_dL, fTuple_dT, fLen_dL, fLen_dT, fSum_dL, fCat_dL, fCat_int, fRep_dL, fRep_int, fSub_int, fMod_int, fDiv_int, fLt_int, fLe_int, fGt_int, fGe_int, fNeg_int, fAbs_int, fMax2_int, fMin2_int, fInt_int, fInt_bool, fSl_dL, fSl_dT, fSl3_dL, fSl3_dT, fEq_int, fNe_int, fEq_dL, fNe_dL, fEq_dT, fNe_dT, items_dL, items_dT, wSl, wSl3, wNo, wPart, wSq_eq, sqK_t, sqK_al, sqO_iL, qIx_eq, qIxK, lstAt_eq, lstO_iL, DL.placeOf, T.get, core_d, re_iL, re_d, T.put, List.getElem?_cons_zero, List.getElem?_cons_succ, List.set_cons_zero, List.set_cons_succ, List.length_cons, List.length_nil, iD_len, iE_len, and_true, true_and, Bool.not_true, Bool.not_false, if_true, if_false, Bool.false_eq_true, decide_eq_true_eq, Bool.not_eq_true', decide_eq_false_iff_not, wFor, wRng1, wRng2, wRng3, wName, endsD, startG, List.map_cons, List.map_nil, List.replicate, List.cons_append, List.nil_append, look, wCall, Option.some.injEq, exists_eq_left', wPar, DL.putAt, wSetQ, wApp_eq, appO_iL, isLst_iL, wPop_eq, popO_iL, Nat.zero_le, not_true_eq_false, not_false_eq_true, wLc, wipeG, restG, toD_iLL, varK_iLL, qvO_iLL, lstO_iLL, re_iLL, lst_iLL, items_tT, items_tL, takeO_iLL, putO_iLL, sqO_iLL, keepD_iLL, wZp, keepD_none, keepD_d, keepD_iL, items_tup, items_lst, wYes, wTTup, wTCons, wTNil, tup_rows]
      refine ⟨(.r (A.map fun r => ord.map fun l => at0 r l), ord), rfl, ⟨by show ord.length ≤ 1000; omega, fun k hk => by have := hlt k hk; show k < (A.map _).length; rw [List.length_map, hsq.1]; exact this⟩, fun r' hr' => ?_⟩
      have hr' : r' = .d (tT (ord.map fun k => rowAt (A.map fun r => ord.map fun l => at0 r l) k)) := hr'
      rw [emv] at hr'
      subst hr'
      try simp only [wSeq, wSet, wAsg, wExpr, wRet, wIf, wTest, wNotT, wAndT, wOrT, wIfE, w1, w2, wn, wNil, wCons, wVar, varK_iL, varK_d, wC, wLst, wTup, wQ, qVar_eq, qvO_iL, qvO_d, qC, qI, qNeg, qLen, wNext, takesOf, take_al, take_t, takeO_iL, frzsOf, frzOf, datsOf, datOf, on1, on2, put_t, put_al, putO_iL, toD_iL, toD_d, flat_iL, flat_d, lst_nil, lst_one, lst_iE, lst_iD, nil_dT, nil_dL, fList_dL, fList_dT, fTuple_dL, fTuple_dT, fLen_dL, fLen_dT, fSum_dL, fCat_dL, fCat_int, fRep_dL, fRep_int, fSub_int, fMod_int, fDiv_int, fLt_int, fLe_int, fGt_int, fGe_int, fNeg_int, fAbs_int, fMax2_int, fMin2_int, fInt_int, fInt_bool, fSl_dL, fSl_dT, fSl3_dL, fSl3_dT, fEq_int, fNe_int, fEq_dL, fNe_dL, fEq_dT, fNe_dT, items_dL, items_dT, wSl, wSl3, wNo, wPart, wSq_eq, sqK_t, sqK_al, sqO_iL, qIx_eq, qIxK, lstAt_eq, lstO_iL, DL.placeOf, T.get, core_d, re_iL, re_d, T.put, List.getElem?_cons_zero, List.getElem?_cons_succ, List.set_cons_zero, List.set_cons_succ, List.length_cons, List.length_nil, iD_len, iE_len, and_true, true_and, Bool.not_true, Bool.not_false, if_true, if_false, Bool.false_eq_true, decide_eq_true_eq, Bool.not_eq_true', decide_eq_false_iff_not, wFor, wRng1, wRng2, wRng3, wName, endsD, startG, List.map_cons, List.map_nil, List.replicate, List.cons_append, List.nil_append, look, wCall, Option.some.injEq, exists_eq_left', wPar, DL.putAt, wSetQ, wApp_eq, appO_iL, isLst_iL, wPop_eq, popO_iL, Nat.zero_le, not_true_eq_false, not_false_eq_true, wLc, wipeG, restG, toD_iLL, varK_iLL, qvO_iLL, lstO_iLL, re_iLL, lst_iLL, items_tT, items_tL, takeO_iLL, putO_iLL, sqO_iLL, keepD_iLL, wZp, keepD_none, keepD_d, keepD_iL, items_tup, items_lst, wYes, wTTup, wTCons, wTNil]
      refine ⟨by decide, A, rfl, ⟨2, ht2⟩, fun r h1 => ?_⟩
      have h1 : r = .d (dT (ownT A)) := h1
      subst h1
      try simp only [wSeq, wSet, wAsg, wExpr, wRet, wIf, wTest, wNotT, wAndT, wOrT, wIfE, w1, w2, wn, wNil, wCons, wVar, varK_iL, varK_d, wC, wLst, wTup, wQ, qVar_eq, qvO_iL, qvO_d, qC, qI, qNeg, qLen, wNext, takesOf, take_al, take_t, takeO_iL, frzsOf, frzOf, datsOf, datOf, on1, on2, put_t, put_al, putO_iL, toD_iL, toD_d, flat_iL, flat_d, lst_nil, lst_one, lst_iE, lst_iD, nil_dT, nil_dL, fList_dL, fList_dT, fTuple_dL, fTuple_dT, fLen_dL, fLen_dT, fSum_dL, fCat_dL, fCat_int, fRep_dL, fRep_int, fSub_int, fMod_int, fDiv_int, fLt_int, fLe_int, fGt_int, fGe_int, fNeg_int, fAbs_int, fMax2_int, fMin2_int, fInt_int, fInt_bool, fSl_dL, fSl_dT, fSl3_dL, fSl3_dT, fEq_int, fNe_int, fEq_dL, fNe_dL, fEq_dT, fNe_dT, items_dL, items_dT, wSl, wSl3, wNo, wPart, wSq_eq, sqK_t, sqK_al, sqO_iL, qIx_eq, qIxK, lstAt_eq, lstO_iL, DL.placeOf, T.get, core_d, re_iL, re_d, T.put, List.getElem?_cons_zero, List.getElem?_cons_succ, List.set_cons_zero, List.set_cons_succ, List.length_cons, List.length_nil, iD_len, iE_len, and_true, true_and, Bool.not_true, Bool.not_false, if_true, if_false, Bool.false_eq_true, decide_eq_true_eq, Bool.not_eq_true', decide_eq_false_iff_not, wFor, wRng1, wRng2, wRng3, wName, endsD, startG, List.map_cons, List.map_nil, List.replicate, List.cons_append, List.nil_append, look, wCall, Option.some.injEq, exists_eq_left', wPar, DL.putAt, wSetQ, wApp_eq, appO_iL, isLst_iL, wPop_eq, popO_iL, Nat.zero_le, not_true_eq_false, not_false_eq_true, wLc, wipeG, restG, toD_iLL, varK_iLL, qvO_iLL, lstO_iLL, re_iLL, lst_iLL, items_tT, items_tL, takeO_iLL, putO_iLL, sqO_iLL, keepD_iLL, wZp, keepD_none, keepD_d, keepD_iL, items_tup, items_lst, wYes, wTTup, wTCons, wTNil]
      refine ⟨(A, b, w), rfl, pre_row h6 (by decide) hsq ht2 hb hw, fun r h1 => ?_⟩
      have h1 : r = .d (leastD (toldS (ownT A)) ((rwS A b w A.length).2.take ((ownT A).length - 1))) := h1
      subst h1
      try simp only [wSeq, wSet, wAsg, wExpr, wRet, wIf, wTest, wNotT, wAndT, wOrT, wIfE, w1, w2, wn, wNil, wCons, wVar, varK_iL, varK_d, wC, wLst, wTup, wQ, qVar_eq, qvO_iL, qvO_d, qC, qI, qNeg, qLen, wNext, takesOf, take_al, take_t, takeO_iL, frzsOf, frzOf, datsOf, datOf, on1, on2, put_t, put_al, putO_iL, toD_iL, toD_d, flat_iL, flat_d, lst_nil, lst_one, lst_iE, lst_iD, nil_dT, nil_dL, fList_dL, fList_dT, fTuple_dL, fTuple_dT, fLen_dL, fLen_dT, fSum_dL, fCat_dL, fCat_int, fRep_dL, fRep_int, fSub_int, fMod_int, fDiv_int, fLt_int, fLe_int, fGt_int, fGe_int, fNeg_int, fAbs_int, fMax2_int, fMin2_int, fInt_int, fInt_bool, fSl_dL, fSl_dT, fSl3_dL, fSl3_dT, fEq_int, fNe_int, fEq_dL, fNe_dL, fEq_dT, fNe_dT, items_dL, items_dT, wSl, wSl3, wNo, wPart, wSq_eq, sqK_t, sqK_al, sqO_iL, qIx_eq, qIxK, lstAt_eq, lstO_iL, DL.placeOf, T.get, core_d, re_iL, re_d, T.put, List.getElem?_cons_zero, List.getElem?_cons_succ, List.set_cons_zero, List.set_cons_succ, List.length_cons, List.length_nil, iD_len, iE_len, and_true, true_and, Bool.not_true, Bool.not_false, if_true, if_false, Bool.false_eq_true, decide_eq_true_eq, Bool.not_eq_true', decide_eq_false_iff_not, wFor, wRng1, wRng2, wRng3, wName, endsD, startG, List.map_cons, List.map_nil, List.replicate, List.cons_append, List.nil_append, look, wCall, Option.some.injEq, exists_eq_left', wPar, DL.putAt, wSetQ, wApp_eq, appO_iL, isLst_iL, wPop_eq, popO_iL, Nat.zero_le, not_true_eq_false, not_false_eq_true, wLc, wipeG, restG, toD_iLL, varK_iLL, qvO_iLL, lstO_iLL, re_iLL, lst_iLL, items_tT, items_tL, takeO_iLL, putO_iLL, sqO_iLL, keepD_iLL, wZp, keepD_none, keepD_d, keepD_iL, items_tup, items_lst, wYes, wTTup, wTCons, wTNil]
      refine ⟨A, rfl, pre_tr h6 (by decide) hsq ht2, fun r h1 => ?_⟩
      have h1 : r = .d (leastD (toldS (ownT A)) ((psL (ownT A) A.length).take ((ownT A).length - 1))) := h1
      subst h1
      try simp only [wSeq, wSet, wAsg, wExpr, wRet, wIf, wTest, wNotT, wAndT, wOrT, wIfE, w1, w2, wn, wNil, wCons, wVar, varK_iL, varK_d, wC, wLst, wTup, wQ, qVar_eq, qvO_iL, qvO_d, qC, qI, qNeg, qLen, wNext, takesOf, take_al, take_t, takeO_iL, frzsOf, frzOf, datsOf, datOf, on1, on2, put_t, put_al, putO_iL, toD_iL, toD_d, flat_iL, flat_d, lst_nil, lst_one, lst_iE, lst_iD, nil_dT, nil_dL, fList_dL, fList_dT, fTuple_dL, fTuple_dT, fLen_dL, fLen_dT, fSum_dL, fCat_dL, fCat_int, fRep_dL, fRep_int, fSub_int, fMod_int, fDiv_int, fLt_int, fLe_int, fGt_int, fGe_int, fNeg_int, fAbs_int, fMax2_int, fMin2_int, fInt_int, fInt_bool, fSl_dL, fSl_dT, fSl3_dL, fSl3_dT, fEq_int, fNe_int, fEq_dL, fNe_dL, fEq_dT, fNe_dT, items_dL, items_dT, wSl, wSl3, wNo, wPart, wSq_eq, sqK_t, sqK_al, sqO_iL, qIx_eq, qIxK, lstAt_eq, lstO_iL, DL.placeOf, T.get, core_d, re_iL, re_d, T.put, List.getElem?_cons_zero, List.getElem?_cons_succ, List.set_cons_zero, List.set_cons_succ, List.length_cons, List.length_nil, iD_len, iE_len, and_true, true_and, Bool.not_true, Bool.not_false, if_true, if_false, Bool.false_eq_true, decide_eq_true_eq, Bool.not_eq_true', decide_eq_false_iff_not, wFor, wRng1, wRng2, wRng3, wName, endsD, startG, List.map_cons, List.map_nil, List.replicate, List.cons_append, List.nil_append, look, wCall, Option.some.injEq, exists_eq_left', wPar, DL.putAt, wSetQ, wApp_eq, appO_iL, isLst_iL, wPop_eq, popO_iL, Nat.zero_le, not_true_eq_false, not_false_eq_true, wLc, wipeG, restG, toD_iLL, varK_iLL, qvO_iLL, lstO_iLL, re_iLL, lst_iLL, items_tT, items_tL, takeO_iLL, putO_iLL, sqO_iLL, keepD_iLL, wZp, keepD_none, keepD_d, keepD_iL, items_tup, items_lst, wYes, wTTup, wTCons, wTNil]
      refine ⟨by decide, by decide, A, rfl, ⟨by rw [hsq.1]; omega, fun r hr => by rw [hsq.2 r hr, hsq.1]⟩, fun r h1 => ?_⟩
      have h1 : r = .d (tT (turnT A)) := h1
      subst h1
      try simp only [wSeq, wSet, wAsg, wExpr, wRet, wIf, wTest, wNotT, wAndT, wOrT, wIfE, w1, w2, wn, wNil, wCons, wVar, varK_iL, varK_d, wC, wLst, wTup, wQ, qVar_eq, qvO_iL, qvO_d, qC, qI, qNeg, qLen, wNext, takesOf, take_al, take_t, takeO_iL, frzsOf, frzOf, datsOf, datOf, on1, on2, put_t, put_al, putO_iL, toD_iL, toD_d, flat_iL, flat_d, lst_nil, lst_one, lst_iE, lst_iD, nil_dT, nil_dL, fList_dL, fList_dT, fTuple_dL, fTuple_dT, fLen_dL, fLen_dT, fSum_dL, fCat_dL, fCat_int, fRep_dL, fRep_int, fSub_int, fMod_int, fDiv_int, fLt_int, fLe_int, fGt_int, fGe_int, fNeg_int, fAbs_int, fMax2_int, fMin2_int, fInt_int, fInt_bool, fSl_dL, fSl_dT, fSl3_dL, fSl3_dT, fEq_int, fNe_int, fEq_dL, fNe_dL, fEq_dT, fNe_dT, items_dL, items_dT, wSl, wSl3, wNo, wPart, wSq_eq, sqK_t, sqK_al, sqO_iL, qIx_eq, qIxK, lstAt_eq, lstO_iL, DL.placeOf, T.get, core_d, re_iL, re_d, T.put, List.getElem?_cons_zero, List.getElem?_cons_succ, List.set_cons_zero, List.set_cons_succ, List.length_cons, List.length_nil, iD_len, iE_len, and_true, true_and, Bool.not_true, Bool.not_false, if_true, if_false, Bool.false_eq_true, decide_eq_true_eq, Bool.not_eq_true', decide_eq_false_iff_not, wFor, wRng1, wRng2, wRng3, wName, endsD, startG, List.map_cons, List.map_nil, List.replicate, List.cons_append, List.nil_append, look, wCall, Option.some.injEq, exists_eq_left', wPar, DL.putAt, wSetQ, wApp_eq, appO_iL, isLst_iL, wPop_eq, popO_iL, Nat.zero_le, not_true_eq_false, not_false_eq_true, wLc, wipeG, restG, toD_iLL, varK_iLL, qvO_iLL, lstO_iLL, re_iLL, lst_iLL, items_tT, items_tL, takeO_iLL, putO_iLL, sqO_iLL, keepD_iLL, wZp, keepD_none, keepD_d, keepD_iL, items_tup, items_lst, wYes, wTTup, wTCons, wTNil]
      refine ⟨by decide, turnT A, rfl, ⟨2, tt2⟩, fun r h1 => ?_⟩
      have h1 : r = .d (dT (ownT (turnT A))) := h1
      subst h1
      try simp only [wSeq, wSet, wAsg, wExpr, wRet, wIf, wTest, wNotT, wAndT, wOrT, wIfE, w1, w2, wn, wNil, wCons, wVar, varK_iL, varK_d, wC, wLst, wTup, wQ, qVar_eq, qvO_iL, qvO_d, qC, qI, qNeg, qLen, wNext, takesOf, take_al, take_t, takeO_iL, frzsOf, frzOf, datsOf, datOf, on1, on2, put_t, put_al, putO_iL, toD_iL, toD_d, flat_iL, flat_d, lst_nil, lst_one, lst_iE, lst_iD, nil_dT, nil_dL, fList_dL, fList_dT, fTuple_dL, fTuple_dT, fLen_dL, fLen_dT, fSum_dL, fCat_dL, fCat_int, fRep_dL, fRep_int, fSub_int, fMod_int, fDiv_int, fLt_int, fLe_int, fGt_int, fGe_int, fNeg_int, fAbs_int, fMax2_int, fMin2_int, fInt_int, fInt_bool, fSl_dL, fSl_dT, fSl3_dL, fSl3_dT, fEq_int, fNe_int, fEq_dL, fNe_dL, fEq_dT, fNe_dT, items_dL, items_dT, wSl, wSl3, wNo, wPart, wSq_eq, sqK_t, sqK_al, sqO_iL, qIx_eq, qIxK, lstAt_eq, lstO_iL, DL.placeOf, T.get, core_d, re_iL, re_d, T.put, List.getElem?_cons_zero, List.getElem?_cons_succ, List.set_cons_zero, List.set_cons_succ, List.length_cons, List.length_nil, iD_len, iE_len, and_true, true_and, Bool.not_true, Bool.not_false, if_true, if_false, Bool.false_eq_true, decide_eq_true_eq, Bool.not_eq_true', decide_eq_false_iff_not, wFor, wRng1, wRng2, wRng3, wName, endsD, startG, List.map_cons, List.map_nil, List.replicate, List.cons_append, List.nil_append, look, wCall, Option.some.injEq, exists_eq_left', wPar, DL.putAt, wSetQ, wApp_eq, appO_iL, isLst_iL, wPop_eq, popO_iL, Nat.zero_le, not_true_eq_false, not_false_eq_true, wLc, wipeG, restG, toD_iLL, varK_iLL, qvO_iLL, lstO_iLL, re_iLL, lst_iLL, items_tT, items_tL, takeO_iLL, putO_iLL, sqO_iLL, keepD_iLL, wZp, keepD_none, keepD_d, keepD_iL, items_tup, items_lst, wYes, wTTup, wTCons, wTNil]
      refine ⟨(turnT A, w, b), rfl, pre_row h6 (by decide) tsq tt2 hw hb, fun r h1 => ?_⟩
      have h1 : r = .d (leastD (toldS (ownT (turnT A))) ((rwS (turnT A) w b (turnT A).length).2.take ((ownT (turnT A)).length - 1))) := h1
      subst h1
      try simp only [wSeq, wSet, wAsg, wExpr, wRet, wIf, wTest, wNotT, wAndT, wOrT, wIfE, w1, w2, wn, wNil, wCons, wVar, varK_iL, varK_d, wC, wLst, wTup, wQ, qVar_eq, qvO_iL, qvO_d, qC, qI, qNeg, qLen, wNext, takesOf, take_al, take_t, takeO_iL, frzsOf, frzOf, datsOf, datOf, on1, on2, put_t, put_al, putO_iL, toD_iL, toD_d, flat_iL, flat_d, lst_nil, lst_one, lst_iE, lst_iD, nil_dT, nil_dL, fList_dL, fList_dT, fTuple_dL, fTuple_dT, fLen_dL, fLen_dT, fSum_dL, fCat_dL, fCat_int, fRep_dL, fRep_int, fSub_int, fMod_int, fDiv_int, fLt_int, fLe_int, fGt_int, fGe_int, fNeg_int, fAbs_int, fMax2_int, fMin2_int, fInt_int, fInt_bool, fSl_dL, fSl_dT, fSl3_dL, fSl3_dT, fEq_int, fNe_int, fEq_dL, fNe_dL, fEq_dT, fNe_dT, items_dL, items_dT, wSl, wSl3, wNo, wPart, wSq_eq, sqK_t, sqK_al, sqO_iL, qIx_eq, qIxK, lstAt_eq, lstO_iL, DL.placeOf, T.get, core_d, re_iL, re_d, T.put, List.getElem?_cons_zero, List.getElem?_cons_succ, List.set_cons_zero, List.set_cons_succ, List.length_cons, List.length_nil, iD_len, iE_len, and_true, true_and, Bool.not_true, Bool.not_false, if_true, if_false, Bool.false_eq_true, decide_eq_true_eq, Bool.not_eq_true', decide_eq_false_iff_not, wFor, wRng1, wRng2, wRng3, wName, endsD, startG, List.map_cons, List.map_nil, List.replicate, List.cons_append, List.nil_append, look, wCall, Option.some.injEq, exists_eq_left', wPar, DL.putAt, wSetQ, wApp_eq, appO_iL, isLst_iL, wPop_eq, popO_iL, Nat.zero_le, not_true_eq_false, not_false_eq_true, wLc, wipeG, restG, toD_iLL, varK_iLL, qvO_iLL, lstO_iLL, re_iLL, lst_iLL, items_tT, items_tL, takeO_iLL, putO_iLL, sqO_iLL, keepD_iLL, wZp, keepD_none, keepD_d, keepD_iL, items_tup, items_lst, wYes, wTTup, wTCons, wTNil]
      refine ⟨turnT A, rfl, pre_tr h6 (by decide) tsq tt2, fun r h1 => ?_⟩
      have h1 : r = .d (leastD (toldS (ownT (turnT A))) ((psL (ownT (turnT A)) (turnT A).length).take ((ownT (turnT A)).length - 1))) := h1
      subst h1
      try simp only [wSeq, wSet, wAsg, wExpr, wRet, wIf, wTest, wNotT, wAndT, wOrT, wIfE, w1, w2, wn, wNil, wCons, wVar, varK_iL, varK_d, wC, wLst, wTup, wQ, qVar_eq, qvO_iL, qvO_d, qC, qI, qNeg, qLen, wNext, takesOf, take_al, take_t, takeO_iL, frzsOf, frzOf, datsOf, datOf, on1, on2, put_t, put_al, putO_iL, toD_iL, toD_d, flat_iL, flat_d, lst_nil, lst_one, lst_iE, lst_iD, nil_dT, nil_dL, fList_dL, fList_dT, fTuple_dL, fTuple_dT, fLen_dL, fLen_dT, fSum_dL, fCat_dL, fCat_int, fRep_dL, fRep_int, fSub_int, fMod_int, fDiv_int, fLt_int, fLe_int, fGt_int, fGe_int, fNeg_int, fAbs_int, fMax2_int, fMin2_int, fInt_int, fInt_bool, fSl_dL, fSl_dT, fSl3_dL, fSl3_dT, fEq_int, fNe_int, fEq_dL, fNe_dL, fEq_dT, fNe_dT, items_dL, items_dT, wSl, wSl3, wNo, wPart, wSq_eq, sqK_t, sqK_al, sqO_iL, qIx_eq, qIxK, lstAt_eq, lstO_iL, DL.placeOf, T.get, core_d, re_iL, re_d, T.put, List.getElem?_cons_zero, List.getElem?_cons_succ, List.set_cons_zero, List.set_cons_succ, List.length_cons, List.length_nil, iD_len, iE_len, and_true, true_and, Bool.not_true, Bool.not_false, if_true, if_false, Bool.false_eq_true, decide_eq_true_eq, Bool.not_eq_true', decide_eq_false_iff_not, wFor, wRng1, wRng2, wRng3, wName, endsD, startG, List.map_cons, List.map_nil, List.replicate, List.cons_append, List.nil_append, look, wCall, Option.some.injEq, exists_eq_left', wPar, DL.putAt, wSetQ, wApp_eq, appO_iL, isLst_iL, wPop_eq, popO_iL, Nat.zero_le, not_true_eq_false, not_false_eq_true, wLc, wipeG, restG, toD_iLL, varK_iLL, qvO_iLL, lstO_iLL, re_iLL, lst_iLL, items_tT, items_tL, takeO_iLL, putO_iLL, sqO_iLL, keepD_iLL, wZp, keepD_none, keepD_d, keepD_iL, items_tup, items_lst, wYes, wTTup, wTCons, wTNil]
      refine ⟨by decide, ?_⟩
      show fNe (dueD (turnT A) w b) (dueD A b w) _
      rw [edue, fNe_self due_ok]
      exact h
end
end RT
end
section
set_option autoImplicit false
namespace RT
open PySem PySem.Spec PyProof.Rows L2 DL
section
variable {ns : List Int} {o : T} {p : Pn} {x2 x3 x4 x5 x7 x8 x9 x11 x12 x13 x14 x16 x17 : Option T} {D : DEnds}
theorem vec_put {n : Nat} {b : List Int} {ord : List Nat} (hb : isVec n b) (ho : ord.Perm (List.range n)) : isVec n (ord.map fun k => at0 b k) := by
  refine ⟨by rw [List.length_map, ord_len ho], fun x hx => ?_⟩
  obtain ⟨k, hk, rfl⟩ := List.mem_map.mp hx
  have hk : k < n := List.mem_range.mp (ho.mem_iff.mp hk)
  exact hb.2 _ (at0_mem (by rw [hb.1]; exact hk))
theorem lp3 {n : Nat} {A : List (List Int)} {b w : List Int} {ord : List Nat} (h6 : n ≤ 6) (hA : isTab n 3 A) (hb : isVec n b) (hw : isVec n w) (ho : ord.Perm (List.range n))
    (h : ∀ x5 x7, D.nx (LG ns o x2 x3 x4 x5 x7 x8 (some (.d (dL (natsI ord)))) (some (.d (tT (mvT A ord)))) (some (.d (dueD A b w))) x13 x14 x16 x17)) : LP3 D (LG ns o x2 x3 x4 (some (.d (dT b))) (some (.d (dT w))) x8 (some (.d (dL (natsI ord)))) (some (.d (tT (mvT A ord)))) (some (.d (dueD A b w))) x13 x14 x16 x17) := by
  have hsq := hA.sq
  have msq : sqT n (mvT A ord) := mv_sq ho
  have mt2 : okTab 2 (mvT A ord) := okTab_of msq (by omega) (bq_mv hsq hA.2.2 ho) (by decide) (by decide)
  have hol : ord.length = n := ord_len ho
  have hlt : ∀ k ∈ ord, k < n := fun k hk => List.mem_range.mp (ho.mem_iff.mp hk)
  have hb2 := vec_put hb ho
  have hw2 := vec_put hw ho
  have edue : dueD (mvT A ord) (ord.map fun k => at0 b k) (ord.map fun k => at0 w k) = dueD A b w := by
    unfold dueD
    rw [own_mv hsq ho, rw_mv hsq ho hb.1 hw.1, msq.1, hsq.1]
  simp only [LP3, wSeq, wSet, wAsg, wExpr, wRet, wIf, wTest, wNotT, wAndT, wOrT, wIfE, w1, w2, wn, wNil, wCons, wVar, varK_iL, varK_d, wC, wLst, wTup, wQ, qVar_eq, qvO_iL, qvO_d, qC, qI, qNeg, qLen, wNext, takesOf, take_al, take_t, takeO_iL, frzsOf, frzOf, datsOf, datOf, on1, on2, put_t, put_al, putO_iL, toD_iL, toD_d, flat_iL, flat_d, lst_nil, lst_one, lst_iE, lst_iD, nil_dT, nil_dL, fList_dL, fList_dT, fTuple_dL, fTuple_dT, fLen_dL, fLen_dT, fSum_dL, fCat_dL, fCat_int, fRep_dL, fRep_int, fSub_int, fMod_int, fDiv_int, fLt_int, fLe_int, fGt_int, fGe_int, fNeg_int, fAbs_int, fMax2_int, fMin2_int, fInt_int, fInt_bool, fSl_dL, fSl_dT, fSl3_dL, fSl3_dT, fEq_int, fNe_int, fEq_dL, fNe_dL, fEq_dT, fNe_dT, items_dL, items_dT, wSl, wSl3, wNo, wPart, wSq_eq, sqK_t, sqK_al, sqO_iL, qIx_eq, qIxK, lstAt_eq, lstO_iL, DL.placeOf, T.get, core_d, re_iL, re_d, T.put, List.getElem?_cons_zero, List.getElem?_cons_succ, List.set_cons_zero, List.set_cons_succ, List.length_cons, List.length_nil, iD_len, iE_len, and_true, true_and, Bool.not_true, Bool.not_false, if_true, if_false, Bool.false_eq_true, decide_eq_true_eq, Bool.not_eq_true', decide_eq_false_iff_not, wFor, wRng1, wRng2, wRng3, wName, endsD, startG, List.map_cons, List.map_nil, List.replicate, List.cons_append, List.nil_append, look, wCall, Option.some.injEq, exists_eq_left', wPar, DL.putAt, wSetQ, wApp_eq, appO_iL, isLst_iL, wPop_eq, popO_iL, Nat.zero_le, not_true_eq_false, not_false_eq_true, wLc, wipeG, restG, toD_iLL, varK_iLL, qvO_iLL, lstO_iLL, re_iLL, lst_iLL, items_tT, items_tL, takeO_iLL, putO_iLL, sqO_iLL, keepD_iLL, wZp, keepD_none, keepD_d, keepD_iL, items_tup, items_lst, wYes, wTTup, wTCons, wTNil]
  refine ⟨(.i b, ord), rfl, ⟨by show ord.length ≤ 1000; omega, fun k hk => by have := hlt k hk; show k < b.length; rw [hb.1]; exact this⟩, fun r h1 => ?_⟩
  have h1 : r = .d (dT (ord.map fun k => at0 b k)) := h1
  subst h1
  refine ⟨(.i w, ord), rfl, ⟨by show ord.length ≤ 1000; omega, fun k hk => by have := hlt k hk; show k < w.length; rw [hw.1]; exact this⟩, fun r h1 => ?_⟩
  have h1 : r = .d (dT (ord.map fun k => at0 w k)) := h1
  subst h1
  simp only [wSeq, wSet, wAsg, wExpr, wRet, wIf, wTest, wNotT, wAndT, wOrT, wIfE, w1, w2, wn, wNil, wCons, wVar, varK_iL, varK_d, wC, wLst, wTup, wQ, qVar_eq, qvO_iL, qvO_d, qC, qI, qNeg, qLen, wNext, takesOf, take_al, take_t, takeO_iL, frzsOf, frzOf, datsOf, datOf, on1, on2, put_t, put_al, putO_iL, toD_iL, toD_d, flat_iL, flat_d, lst_nil, lst_one, lst_iE, lst_iD, nil_dT, nil_dL, fList_dL, fList_dT, fTuple_dL, fTuple_dT, fLen_dL, fLen_dT, fSum_dL, fCat_dL, fCat_int, fRep_dL, fRep_int, fSub_int, fMod_int, fDiv_int, fLt_int, fLe_int, fGt_int, fGe_int, fNeg_int, fAbs_int, fMax2_int, fMin2_int, fInt_int, fInt_bool, fSl_dL, fSl_dT, fSl3_dL, fSl3_dT, fEq_int, fNe_int, fEq_dL, fNe_dL, fEq_dT, fNe_dT, items_dL, items_dT, wSl, wSl3, wNo, wPart, wSq_eq, sqK_t, sqK_al, sqO_iL, qIx_eq, qIxK, lstAt_eq, lstO_iL, DL.placeOf, T.get, core_d, re_iL, re_d, T.put, List.getElem?_cons_zero, List.getElem?_cons_succ, List.set_cons_zero, List.set_cons_succ, List.length_cons, List.length_nil, iD_len, iE_len, and_true, true_and, Bool.not_true, Bool.not_false, if_true, if_false, Bool.false_eq_true, decide_eq_true_eq, Bool.not_eq_true', decide_eq_false_iff_not, wFor, wRng1, wRng2, wRng3, wName, endsD, startG, List.map_cons, List.map_nil, List.replicate, List.cons_append, List.nil_append, look, wCall, Option.some.injEq, exists_eq_left', wPar, DL.putAt, wSetQ, wApp_eq, appO_iL, isLst_iL, wPop_eq, popO_iL, Nat.zero_le, not_true_eq_false, not_false_eq_true, wLc, wipeG, restG, toD_iLL, varK_iLL, qvO_iLL, lstO_iLL, re_iLL, lst_iLL, items_tT, items_tL, takeO_iLL, putO_iLL, sqO_iLL, keepD_iLL, wZp, keepD_none, keepD_d, keepD_iL, items_tup, items_lst, wYes, wTTup, wTCons, wTNil]
  refine ⟨by decide, by decide, mvT A ord, rfl, ⟨2, mt2⟩, fun r h1 => ?_⟩
  have h1 : r = .d (dT (ownT (mvT A ord))) := h1
  subst h1
  try simp only [wSeq, wSet, wAsg, wExpr, wRet, wIf, wTest, wNotT, wAndT, wOrT, wIfE, w1, w2, wn, wNil, wCons, wVar, varK_iL, varK_d, wC, wLst, wTup, wQ, qVar_eq, qvO_iL, qvO_d, qC, qI, qNeg, qLen, wNext, takesOf, take_al, take_t, takeO_iL, frzsOf, frzOf, datsOf, datOf, on1, on2, put_t, put_al, putO_iL, toD_iL, toD_d, flat_iL, flat_d, lst_nil, lst_one, lst_iE, lst_iD, nil_dT, nil_dL, fList_dL, fList_dT, fTuple_dL, fTuple_dT, fLen_dL, fLen_dT, fSum_dL, fCat_dL, fCat_int, fRep_dL, fRep_int, fSub_int, fMod_int, fDiv_int, fLt_int, fLe_int, fGt_int, fGe_int, fNeg_int, fAbs_int, fMax2_int, fMin2_int, fInt_int, fInt_bool, fSl_dL, fSl_dT, fSl3_dL, fSl3_dT, fEq_int, fNe_int, fEq_dL, fNe_dL, fEq_dT, fNe_dT, items_dL, items_dT, wSl, wSl3, wNo, wPart, wSq_eq, sqK_t, sqK_al, sqO_iL, qIx_eq, qIxK, lstAt_eq, lstO_iL, DL.placeOf, T.get, core_d, re_iL, re_d, T.put, List.getElem?_cons_zero, List.getElem?_cons_succ, List.set_cons_zero, List.set_cons_succ, List.length_cons, List.length_nil, iD_len, iE_len, and_true, true_and, Bool.not_true, Bool.not_false, if_true, if_false, Bool.false_eq_true, decide_eq_true_eq, Bool.not_eq_true', decide_eq_false_iff_not, wFor, wRng1, wRng2, wRng3, wName, endsD, startG, List.map_cons, List.map_nil, List.replicate, List.cons_append, List.nil_append, look, wCall, Option.some.injEq, exists_eq_left', wPar, DL.putAt, wSetQ, wApp_eq, appO_iL, isLst_iL, wPop_eq, popO_iL, Nat.zero_le, not_true_eq_false, not_false_eq_true, wLc, wipeG, restG, toD_iLL, varK_iLL, qvO_iLL, lstO_iLL, re_iLL, lst_iLL, items_tT, items_tL, takeO_iLL, putO_iLL, sqO_iLL, keepD_iLL, wZp, keepD_none, keepD_d, keepD_iL, items_tup, items_lst, wYes, wTTup, wTCons, wTNil]
  refine ⟨(mvT A ord, _, _), rfl, pre_row h6 (by decide) msq mt2 hb2 hw2, fun r h1 => ?_⟩
  have h1 : r = .d (leastD (toldS (ownT (mvT A ord))) ((rwS (mvT A ord) (ord.map fun k => at0 b k) (ord.map fun k => at0 w k) (mvT A ord).length).2.take ((ownT (mvT A ord)).length - 1))) := h1
  subst h1
  try simp only [wSeq, wSet, wAsg, wExpr, wRet, wIf, wTest, wNotT, wAndT, wOrT, wIfE, w1, w2, wn, wNil, wCons, wVar, varK_iL, varK_d, wC, wLst, wTup, wQ, qVar_eq, qvO_iL, qvO_d, qC, qI, qNeg, qLen, wNext, takesOf, take_al, take_t, takeO_iL, frzsOf, frzOf, datsOf, datOf, on1, on2, put_t, put_al, putO_iL, toD_iL, toD_d, flat_iL, flat_d, lst_nil, lst_one, lst_iE, lst_iD, nil_dT, nil_dL, fList_dL, fList_dT, fTuple_dL, fTuple_dT, fLen_dL, fLen_dT, fSum_dL, fCat_dL, fCat_int, fRep_dL, fRep_int, fSub_int, fMod_int, fDiv_int, fLt_int, fLe_int, fGt_int, fGe_int, fNeg_int, fAbs_int, fMax2_int, fMin2_int, fInt_int, fInt_bool, fSl_dL, fSl_dT, fSl3_dL, fSl3_dT, fEq_int, fNe_int, fEq_dL, fNe_dL, fEq_dT, fNe_dT, items_dL, items_dT, wSl, wSl3, wNo, wPart, wSq_eq, sqK_t, sqK_al, sqO_iL, qIx_eq, qIxK, lstAt_eq, lstO_iL, DL.placeOf, T.get, core_d, re_iL, re_d, T.put, List.getElem?_cons_zero, List.getElem?_cons_succ, List.set_cons_zero, List.set_cons_succ, List.length_cons, List.length_nil, iD_len, iE_len, and_true, true_and, Bool.not_true, Bool.not_false, if_true, if_false, Bool.false_eq_true, decide_eq_true_eq, Bool.not_eq_true', decide_eq_false_iff_not, wFor, wRng1, wRng2, wRng3, wName, endsD, startG, List.map_cons, List.map_nil, List.replicate, List.cons_append, List.nil_append, look, wCall, Option.some.injEq, exists_eq_left', wPar, DL.putAt, wSetQ, wApp_eq, appO_iL, isLst_iL, wPop_eq, popO_iL, Nat.zero_le, not_true_eq_false, not_false_eq_true, wLc, wipeG, restG, toD_iLL, varK_iLL, qvO_iLL, lstO_iLL, re_iLL, lst_iLL, items_tT, items_tL, takeO_iLL, putO_iLL, sqO_iLL, keepD_iLL, wZp, keepD_none, keepD_d, keepD_iL, items_tup, items_lst, wYes, wTTup, wTCons, wTNil]
  refine ⟨mvT A ord, rfl, pre_tr h6 (by decide) msq mt2, fun r h1 => ?_⟩
  have h1 : r = .d (leastD (toldS (ownT (mvT A ord))) ((psL (ownT (mvT A ord)) (mvT A ord).length).take ((ownT (mvT A ord)).length - 1))) := h1
  subst h1
  try simp only [wSeq, wSet, wAsg, wExpr, wRet, wIf, wTest, wNotT, wAndT, wOrT, wIfE, w1, w2, wn, wNil, wCons, wVar, varK_iL, varK_d, wC, wLst, wTup, wQ, qVar_eq, qvO_iL, qvO_d, qC, qI, qNeg, qLen, wNext, takesOf, take_al, take_t, takeO_iL, frzsOf, frzOf, datsOf, datOf, on1, on2, put_t, put_al, putO_iL, toD_iL, toD_d, flat_iL, flat_d, lst_nil, lst_one, lst_iE, lst_iD, nil_dT, nil_dL, fList_dL, fList_dT, fTuple_dL, fTuple_dT, fLen_dL, fLen_dT, fSum_dL, fCat_dL, fCat_int, fRep_dL, fRep_int, fSub_int, fMod_int, fDiv_int, fLt_int, fLe_int, fGt_int, fGe_int, fNeg_int, fAbs_int, fMax2_int, fMin2_int, fInt_int, fInt_bool, fSl_dL, fSl_dT, fSl3_dL, fSl3_dT, fEq_int, fNe_int, fEq_dL, fNe_dL, fEq_dT, fNe_dT, items_dL, items_dT, wSl, wSl3, wNo, wPart, wSq_eq, sqK_t, sqK_al, sqO_iL, qIx_eq, qIxK, lstAt_eq, lstO_iL, DL.placeOf, T.get, core_d, re_iL, re_d, T.put, List.getElem?_cons_zero, List.getElem?_cons_succ, List.set_cons_zero, List.set_cons_succ, List.length_cons, List.length_nil, iD_len, iE_len, and_true, true_and, Bool.not_true, Bool.not_false, if_true, if_false, Bool.false_eq_true, decide_eq_true_eq, Bool.not_eq_true', decide_eq_false_iff_not, wFor, wRng1, wRng2, wRng3, wName, endsD, startG, List.map_cons, List.map_nil, List.replicate, List.cons_append, List.nil_append, look, wCall, Option.some.injEq, exists_eq_left', wPar, DL.putAt, wSetQ, wApp_eq, appO_iL, isLst_iL, wPop_eq, popO_iL, Nat.zero_le, not_true_eq_false, not_false_eq_true, wLc, wipeG, restG, toD_iLL, varK_iLL, qvO_iLL, lstO_iLL, re_iLL, lst_iLL, items_tT, items_tL, takeO_iLL, putO_iLL, sqO_iLL, keepD_iLL, wZp, keepD_none, keepD_d, keepD_iL, items_tup, items_lst, wYes, wTTup, wTCons, wTNil]
  refine ⟨by decide, ?_⟩
  show fNe (dueD (mvT A ord) (ord.map fun k => at0 b k) (ord.map fun k => at0 w k)) (dueD A b w) _
  rw [edue, fNe_self due_ok]
  exact h _ _
theorem lp4 {n : Nat} {A : List (List Int)} (h6 : n ≤ 6) (hA : isTab n 3 A) (hpen : PenAt none o p) (hp : p.ok) (ht : p.t ≤ 100000000)
    (h : ∀ (o : T) (q : Pn) x14 x16 x17, PenAt none o q → q.ok → q.t ≤ p.t + 100 → D.nx (LG ns o x2 (some (.d (tT A))) (some (.d (.int n))) x5 x7 x8 x9 x11 x12 x13 x14 x16 x17)) : LP4 D (LG ns o x2 (some (.d (tT A))) (some (.d (.int n))) x5 x7 x8 x9 x11 x12 x13 x14 x16 x17) := by
  have hsq := hA.sq
  have ht2 : okTab 2 A := okTab_of hsq (by omega) hA.2.2 (by decide) (by decide)
  have hBA : Bdt 3 A := fun r hr x hx => Le.bd (ht2.2.2.1 r hr x hx)
  simp only [LP4, wSeq, wSet, wAsg, wExpr, wRet, wIf, wTest, wNotT, wAndT, wOrT, wIfE, w1, w2, wn, wNil, wCons, wVar, varK_iL, varK_d, wC, wLst, wTup, wQ, qVar_eq, qvO_iL, qvO_d, qC, qI, qNeg, qLen, wNext, takesOf, take_al, take_t, takeO_iL, frzsOf, frzOf, datsOf, datOf, on1, on2, put_t, put_al, putO_iL, toD_iL, toD_d, flat_iL, flat_d, lst_nil, lst_one, lst_iE, lst_iD, nil_dT, nil_dL, fList_dL, fList_dT, fTuple_dL, fTuple_dT, fLen_dL, fLen_dT, fSum_dL, fCat_dL, fCat_int, fRep_dL, fRep_int, fSub_int, fMod_int, fDiv_int, fLt_int, fLe_int, fGt_int, fGe_int, fNeg_int, fAbs_int, fMax2_int, fMin2_int, fInt_int, fInt_bool, fSl_dL, fSl_dT, fSl3_dL, fSl3_dT, fEq_int, fNe_int, fEq_dL, fNe_dL, fEq_dT, fNe_dT, items_dL, items_dT, wSl, wSl3, wNo, wPart, wSq_eq, sqK_t, sqK_al, sqO_iL, qIx_eq, qIxK, lstAt_eq, lstO_iL, DL.placeOf, T.get, core_d, re_iL, re_d, T.put, List.getElem?_cons_zero, List.getElem?_cons_succ, List.set_cons_zero, List.set_cons_succ, List.length_cons, List.length_nil, iD_len, iE_len, and_true, true_and, Bool.not_true, Bool.not_false, if_true, if_false, Bool.false_eq_true, decide_eq_true_eq, Bool.not_eq_true', decide_eq_false_iff_not, wFor, wRng1, wRng2, wRng3, wName, endsD, startG, List.map_cons, List.map_nil, List.replicate, List.cons_append, List.nil_append, look, wCall, Option.some.injEq, exists_eq_left', wPar, DL.putAt, wSetQ, wApp_eq, appO_iL, isLst_iL, wPop_eq, popO_iL, Nat.zero_le, not_true_eq_false, not_false_eq_true, wLc, wipeG, restG, toD_iLL, varK_iLL, qvO_iLL, lstO_iLL, re_iLL, lst_iLL, items_tT, items_tL, takeO_iLL, putO_iLL, sqO_iLL, keepD_iLL, wZp, keepD_none, keepD_d, keepD_iL, items_tup, items_lst, wYes, wTTup, wTCons, wTNil, Int.toNat_natCast]
  refine ⟨⟨by omega, by omega⟩, by rw [rangeD_len]; exact le1000 (by omega), ?_⟩
  refine draw_other h6 hpen hp (by omega) fun o q M h1 h2 h3 h4 h5 => ?_
  have msq : sqT n M := ⟨h4, fun r hr => (h5 r hr).1⟩
  have mq : Bq 2 M := fun r hr => (h5 r hr).2
  have mt2 : okTab 1 M := okTab_of msq (by omega) mq (by decide) (by decide)
  have hBM : Bdt 2 M := fun r hr x hx => Le.bd (mt2.2.2.1 r hr x hx)
  have n36 : (n : Int) * (3 * 2) ≤ (2 ^ 6 : Nat) := by
    have : (n : Int) ≤ 6 := by omega
    show (n : Int) * 6 ≤ 64
    omega
  have n36' : (n : Int) * (2 * 3) ≤ (2 ^ 6 : Nat) := n36
  have psq1 := prod_sq hsq msq
  have psq2 := prod_sq msq hsq
  have pt1 : okTab 6 (A.map fun r => carryT (turnT M) r) := okTab_of psq1 (by omega) (bq_prod hsq msq hA.2.2 mq (by decide) (by decide)) n36 (by decide)
  have pt2 : okTab 6 (M.map fun r => carryT (turnT A) r) := okTab_of psq2 (by omega) (bq_prod msq hsq mq hA.2.2 (by decide) (by decide)) n36' (by decide)
  have eown := own_prod hsq msq
  have elen : (M.map fun r => carryT (turnT A) r).length = (A.map fun r => carryT (turnT M) r).length := by rw [psq1.1, psq2.1]
  have etup : (T.lst (M.map fun r => T.d (dT r))).toD = some (.list (M.map dT)) := rwT_toD
  have eflat : (T.lst (M.map fun r => T.d (dT r))).flat = some (.list (M.map dT)) := flat_rwT
  have efin : ∀ k : T → Prop, fTuple (.list (M.map dT)) k = k (.d (tT M)) := fun _ => rfl
  simp only [wSeq, wSet, wAsg, wExpr, wRet, wIf, wTest, wNotT, wAndT, wOrT, wIfE, w1, w2, wn, wNil, wCons, wVar, varK_iL, varK_d, wC, wLst, wTup, wQ, qVar_eq, qvO_iL, qvO_d, qC, qI, qNeg, qLen, wNext, takesOf, take_al, take_t, takeO_iL, frzsOf, frzOf, datsOf, datOf, on1, on2, put_t, put_al, putO_iL, toD_iL, toD_d, flat_iL, flat_d, lst_nil, lst_one, lst_iE, lst_iD, nil_dT, nil_dL, fList_dL, fList_dT, fTuple_dL, fTuple_dT, fLen_dL, fLen_dT, fSum_dL, fCat_dL, fCat_int, fRep_dL, fRep_int, fSub_int, fMod_int, fDiv_int, fLt_int, fLe_int, fGt_int, fGe_int, fNeg_int, fAbs_int, fMax2_int, fMin2_int, fInt_int, fInt_bool, fSl_dL, fSl_dT, fSl3_dL, fSl3_dT, fEq_int, fNe_int, fEq_dL, fNe_dL, fEq_dT, fNe_dT, items_dL, items_dT, wSl, wSl3, wNo, wPart, wSq_eq, sqK_t, sqK_al, sqO_iL, qIx_eq, qIxK, lstAt_eq, lstO_iL, DL.placeOf, T.get, core_d, re_iL, re_d, T.put, List.getElem?_cons_zero, List.getElem?_cons_succ, List.set_cons_zero, List.set_cons_succ, List.length_cons, List.length_nil, iD_len, iE_len, and_true, true_and, Bool.not_true, Bool.not_false, if_true, if_false, Bool.false_eq_true, decide_eq_true_eq, Bool.not_eq_true', decide_eq_false_iff_not, wFor, wRng1, wRng2, wRng3, wName, endsD, startG, List.map_cons, List.map_nil, List.replicate, List.cons_append, List.nil_append, look, wCall, Option.some.injEq, exists_eq_left', wPar, DL.putAt, wSetQ, wApp_eq, appO_iL, isLst_iL, wPop_eq, popO_iL, Nat.zero_le, not_true_eq_false, not_false_eq_true, wLc, wipeG, restG, toD_iLL, varK_iLL, qvO_iLL, lstO_iLL, re_iLL, lst_iLL, items_tT, items_tL, takeO_iLL, putO_iLL, sqO_iLL, keepD_iLL, wZp, keepD_none, keepD_d, keepD_iL, items_tup, items_lst, wYes, wTTup, wTCons, wTNil, etup, eflat, efin]
  refine ⟨by decide, ?_⟩
  refine ⟨(A, M), rfl, ⟨by show A.length ≤ 1000; rw [hsq.1]; omega, by show M.length = A.length; rw [hsq.1, h4], fun r hr => by show r.length = A.length; rw [hsq.2 r hr, hsq.1], fun r hr => by show r.length = A.length; rw [msq.2 r hr, hsq.1], 3, 2, hBA, hBM, by decide⟩, fun r h1 => ?_⟩
  have h1 : r = .d (tT (A.map fun r => carryT (turnT M) r)) := h1
  subst h1
  refine ⟨(M, A), rfl, ⟨by show M.length ≤ 1000; rw [msq.1]; omega, by show A.length = M.length; rw [hsq.1, h4], fun r hr => by show r.length = M.length; rw [msq.2 r hr, msq.1], fun r hr => by show r.length = M.length; rw [hsq.2 r hr, msq.1], 2, 3, hBM, hBA, by decide⟩, fun r h1 => ?_⟩
  have h1 : r = .d (tT (M.map fun r => carryT (turnT A) r)) := h1
  subst h1
  try simp only [wSeq, wSet, wAsg, wExpr, wRet, wIf, wTest, wNotT, wAndT, wOrT, wIfE, w1, w2, wn, wNil, wCons, wVar, varK_iL, varK_d, wC, wLst, wTup, wQ, qVar_eq, qvO_iL, qvO_d, qC, qI, qNeg, qLen, wNext, takesOf, take_al, take_t, takeO_iL, frzsOf, frzOf, datsOf, datOf, on1, on2, put_t, put_al, putO_iL, toD_iL, toD_d, flat_iL, flat_d, lst_nil, lst_one, lst_iE, lst_iD, nil_dT, nil_dL, fList_dL, fList_dT, fTuple_dL, fTuple_dT, fLen_dL, fLen_dT, fSum_dL, fCat_dL, fCat_int, fRep_dL, fRep_int, fSub_int, fMod_int, fDiv_int, fLt_int, fLe_int, fGt_int, fGe_int, fNeg_int, fAbs_int, fMax2_int, fMin2_int, fInt_int, fInt_bool, fSl_dL, fSl_dT, fSl3_dL, fSl3_dT, fEq_int, fNe_int, fEq_dL, fNe_dL, fEq_dT, fNe_dT, items_dL, items_dT, wSl, wSl3, wNo, wPart, wSq_eq, sqK_t, sqK_al, sqO_iL, qIx_eq, qIxK, lstAt_eq, lstO_iL, DL.placeOf, T.get, core_d, re_iL, re_d, T.put, List.getElem?_cons_zero, List.getElem?_cons_succ, List.set_cons_zero, List.set_cons_succ, List.length_cons, List.length_nil, iD_len, iE_len, and_true, true_and, Bool.not_true, Bool.not_false, if_true, if_false, Bool.false_eq_true, decide_eq_true_eq, Bool.not_eq_true', decide_eq_false_iff_not, wFor, wRng1, wRng2, wRng3, wName, endsD, startG, List.map_cons, List.map_nil, List.replicate, List.cons_append, List.nil_append, look, wCall, Option.some.injEq, exists_eq_left', wPar, DL.putAt, wSetQ, wApp_eq, appO_iL, isLst_iL, wPop_eq, popO_iL, Nat.zero_le, not_true_eq_false, not_false_eq_true, wLc, wipeG, restG, toD_iLL, varK_iLL, qvO_iLL, lstO_iLL, re_iLL, lst_iLL, items_tT, items_tL, takeO_iLL, putO_iLL, sqO_iLL, keepD_iLL, wZp, keepD_none, keepD_d, keepD_iL, items_tup, items_lst, wYes, wTTup, wTCons, wTNil]
  refine ⟨by decide, by decide, _, rfl, ⟨6, pt1⟩, fun r h1 => ?_⟩
  have h1 : r = .d (dT (ownT (A.map fun r => carryT (turnT M) r))) := h1
  subst h1
  try simp only [wSeq, wSet, wAsg, wExpr, wRet, wIf, wTest, wNotT, wAndT, wOrT, wIfE, w1, w2, wn, wNil, wCons, wVar, varK_iL, varK_d, wC, wLst, wTup, wQ, qVar_eq, qvO_iL, qvO_d, qC, qI, qNeg, qLen, wNext, takesOf, take_al, take_t, takeO_iL, frzsOf, frzOf, datsOf, datOf, on1, on2, put_t, put_al, putO_iL, toD_iL, toD_d, flat_iL, flat_d, lst_nil, lst_one, lst_iE, lst_iD, nil_dT, nil_dL, fList_dL, fList_dT, fTuple_dL, fTuple_dT, fLen_dL, fLen_dT, fSum_dL, fCat_dL, fCat_int, fRep_dL, fRep_int, fSub_int, fMod_int, fDiv_int, fLt_int, fLe_int, fGt_int, fGe_int, fNeg_int, fAbs_int, fMax2_int, fMin2_int, fInt_int, fInt_bool, fSl_dL, fSl_dT, fSl3_dL, fSl3_dT, fEq_int, fNe_int, fEq_dL, fNe_dL, fEq_dT, fNe_dT, items_dL, items_dT, wSl, wSl3, wNo, wPart, wSq_eq, sqK_t, sqK_al, sqO_iL, qIx_eq, qIxK, lstAt_eq, lstO_iL, DL.placeOf, T.get, core_d, re_iL, re_d, T.put, List.getElem?_cons_zero, List.getElem?_cons_succ, List.set_cons_zero, List.set_cons_succ, List.length_cons, List.length_nil, iD_len, iE_len, and_true, true_and, Bool.not_true, Bool.not_false, if_true, if_false, Bool.false_eq_true, decide_eq_true_eq, Bool.not_eq_true', decide_eq_false_iff_not, wFor, wRng1, wRng2, wRng3, wName, endsD, startG, List.map_cons, List.map_nil, List.replicate, List.cons_append, List.nil_append, look, wCall, Option.some.injEq, exists_eq_left', wPar, DL.putAt, wSetQ, wApp_eq, appO_iL, isLst_iL, wPop_eq, popO_iL, Nat.zero_le, not_true_eq_false, not_false_eq_true, wLc, wipeG, restG, toD_iLL, varK_iLL, qvO_iLL, lstO_iLL, re_iLL, lst_iLL, items_tT, items_tL, takeO_iLL, putO_iLL, sqO_iLL, keepD_iLL, wZp, keepD_none, keepD_d, keepD_iL, items_tup, items_lst, wYes, wTTup, wTCons, wTNil]
  refine ⟨_, rfl, ⟨6, pt2⟩, fun r h1 => ?_⟩
  have h1 : r = .d (dT (ownT (M.map fun r => carryT (turnT A) r))) := h1
  subst h1
  rw [← eown]
  simp only [wSeq, wSet, wAsg, wExpr, wRet, wIf, wTest, wNotT, wAndT, wOrT, wIfE, w1, w2, wn, wNil, wCons, wVar, varK_iL, varK_d, wC, wLst, wTup, wQ, qVar_eq, qvO_iL, qvO_d, qC, qI, qNeg, qLen, wNext, takesOf, take_al, take_t, takeO_iL, frzsOf, frzOf, datsOf, datOf, on1, on2, put_t, put_al, putO_iL, toD_iL, toD_d, flat_iL, flat_d, lst_nil, lst_one, lst_iE, lst_iD, nil_dT, nil_dL, fList_dL, fList_dT, fTuple_dL, fTuple_dT, fLen_dL, fLen_dT, fSum_dL, fCat_dL, fCat_int, fRep_dL, fRep_int, fSub_int, fMod_int, fDiv_int, fLt_int, fLe_int, fGt_int, fGe_int, fNeg_int, fAbs_int, fMax2_int, fMin2_int, fInt_int, fInt_bool, fSl_dL, fSl_dT, fSl3_dL, fSl3_dT, fEq_int, fNe_int, fEq_dL, fNe_dL, fEq_dT, fNe_dT, items_dL, items_dT, wSl, wSl3, wNo, wPart, wSq_eq, sqK_t, sqK_al, sqO_iL, qIx_eq, qIxK, lstAt_eq, lstO_iL, DL.placeOf, T.get, core_d, re_iL, re_d, T.put, List.getElem?_cons_zero, List.getElem?_cons_succ, List.set_cons_zero, List.set_cons_succ, List.length_cons, List.length_nil, iD_len, iE_len, and_true, true_and, Bool.not_true, Bool.not_false, if_true, if_false, Bool.false_eq_true, decide_eq_true_eq, Bool.not_eq_true', decide_eq_false_iff_not, wFor, wRng1, wRng2, wRng3, wName, endsD, startG, List.map_cons, List.map_nil, List.replicate, List.cons_append, List.nil_append, look, wCall, Option.some.injEq, exists_eq_left', wPar, DL.putAt, wSetQ, wApp_eq, appO_iL, isLst_iL, wPop_eq, popO_iL, Nat.zero_le, not_true_eq_false, not_false_eq_true, wLc, wipeG, restG, toD_iLL, varK_iLL, qvO_iLL, lstO_iLL, re_iLL, lst_iLL, items_tT, items_tL, takeO_iLL, putO_iLL, sqO_iLL, keepD_iLL, wZp, keepD_none, keepD_d, keepD_iL, items_tup, items_lst, wYes, wTTup, wTCons, wTNil, decide_true]
  refine ⟨_, rfl, pre_tr h6 (by decide) psq1 pt1, fun r h1 => ?_⟩
  have h1 : r = .d (leastD (toldS (ownT (A.map fun r => carryT (turnT M) r))) ((psL (ownT (A.map fun r => carryT (turnT M) r)) (A.map fun r => carryT (turnT M) r).length).take ((ownT (A.map fun r => carryT (turnT M) r)).length - 1))) := h1
  subst h1
  try simp only [wSeq, wSet, wAsg, wExpr, wRet, wIf, wTest, wNotT, wAndT, wOrT, wIfE, w1, w2, wn, wNil, wCons, wVar, varK_iL, varK_d, wC, wLst, wTup, wQ, qVar_eq, qvO_iL, qvO_d, qC, qI, qNeg, qLen, wNext, takesOf, take_al, take_t, takeO_iL, frzsOf, frzOf, datsOf, datOf, on1, on2, put_t, put_al, putO_iL, toD_iL, toD_d, flat_iL, flat_d, lst_nil, lst_one, lst_iE, lst_iD, nil_dT, nil_dL, fList_dL, fList_dT, fTuple_dL, fTuple_dT, fLen_dL, fLen_dT, fSum_dL, fCat_dL, fCat_int, fRep_dL, fRep_int, fSub_int, fMod_int, fDiv_int, fLt_int, fLe_int, fGt_int, fGe_int, fNeg_int, fAbs_int, fMax2_int, fMin2_int, fInt_int, fInt_bool, fSl_dL, fSl_dT, fSl3_dL, fSl3_dT, fEq_int, fNe_int, fEq_dL, fNe_dL, fEq_dT, fNe_dT, items_dL, items_dT, wSl, wSl3, wNo, wPart, wSq_eq, sqK_t, sqK_al, sqO_iL, qIx_eq, qIxK, lstAt_eq, lstO_iL, DL.placeOf, T.get, core_d, re_iL, re_d, T.put, List.getElem?_cons_zero, List.getElem?_cons_succ, List.set_cons_zero, List.set_cons_succ, List.length_cons, List.length_nil, iD_len, iE_len, and_true, true_and, Bool.not_true, Bool.not_false, if_true, if_false, Bool.false_eq_true, decide_eq_true_eq, Bool.not_eq_true', decide_eq_false_iff_not, wFor, wRng1, wRng2, wRng3, wName, endsD, startG, List.map_cons, List.map_nil, List.replicate, List.cons_append, List.nil_append, look, wCall, Option.some.injEq, exists_eq_left', wPar, DL.putAt, wSetQ, wApp_eq, appO_iL, isLst_iL, wPop_eq, popO_iL, Nat.zero_le, not_true_eq_false, not_false_eq_true, wLc, wipeG, restG, toD_iLL, varK_iLL, qvO_iLL, lstO_iLL, re_iLL, lst_iLL, items_tT, items_tL, takeO_iLL, putO_iLL, sqO_iLL, keepD_iLL, wZp, keepD_none, keepD_d, keepD_iL, items_tup, items_lst, wYes, wTTup, wTCons, wTNil]
  refine ⟨_, rfl, pre_tr h6 (by decide) psq2 pt2, fun r h1 => ?_⟩
  have h1 : r = .d (leastD (toldS (ownT (M.map fun r => carryT (turnT A) r))) ((psL (ownT (M.map fun r => carryT (turnT A) r)) (M.map fun r => carryT (turnT A) r).length).take ((ownT (M.map fun r => carryT (turnT A) r)).length - 1))) := h1
  rw [← eown, elen] at h1
  subst h1
  simp only [leastD, fNe_self ok_rowD, wSeq, wSet, wAsg, wExpr, wRet, wIf, wTest, wNotT, wAndT, wOrT, wIfE, w1, w2, wn, wNil, wCons, wVar, varK_iL, varK_d, wC, wLst, wTup, wQ, qVar_eq, qvO_iL, qvO_d, qC, qI, qNeg, qLen, wNext, takesOf, take_al, take_t, takeO_iL, frzsOf, frzOf, datsOf, datOf, on1, on2, put_t, put_al, putO_iL, toD_iL, toD_d, flat_iL, flat_d, lst_nil, lst_one, lst_iE, lst_iD, nil_dT, nil_dL, fList_dL, fList_dT, fTuple_dL, fTuple_dT, fLen_dL, fLen_dT, fSum_dL, fCat_dL, fCat_int, fRep_dL, fRep_int, fSub_int, fMod_int, fDiv_int, fLt_int, fLe_int, fGt_int, fGe_int, fNeg_int, fAbs_int, fMax2_int, fMin2_int, fInt_int, fInt_bool, fSl_dL, fSl_dT, fSl3_dL, fSl3_dT, fEq_int, fNe_int, fEq_dL, fNe_dL, fEq_dT, fNe_dT, items_dL, items_dT, wSl, wSl3, wNo, wPart, wSq_eq, sqK_t, sqK_al, sqO_iL, qIx_eq, qIxK, lstAt_eq, lstO_iL, DL.placeOf, T.get, core_d, re_iL, re_d, T.put, List.getElem?_cons_zero, List.getElem?_cons_succ, List.set_cons_zero, List.set_cons_succ, List.length_cons, List.length_nil, iD_len, iE_len, and_true, true_and, Bool.not_true, Bool.not_false, if_true, if_false, Bool.false_eq_true, decide_eq_true_eq, Bool.not_eq_true', decide_eq_false_iff_not, wFor, wRng1, wRng2, wRng3, wName, endsD, startG, List.map_cons, List.map_nil, List.replicate, List.cons_append, List.nil_append, look, wCall, Option.some.injEq, exists_eq_left', wPar, DL.putAt, wSetQ, wApp_eq, appO_iL, isLst_iL, wPop_eq, popO_iL, Nat.zero_le, not_true_eq_false, not_false_eq_true, wLc, wipeG, restG, toD_iLL, varK_iLL, qvO_iLL, lstO_iLL, re_iLL, lst_iLL, items_tT, items_tL, takeO_iLL, putO_iLL, sqO_iLL, keepD_iLL, wZp, keepD_none, keepD_d, keepD_iL, items_tup, items_lst, wYes, wTTup, wTCons, wTNil]
  exact h o q _ _ _ ‹_› h2 (by omega)
end
theorem WK_law : ∀ ns, S_law.pre ns → W_law (endsD (S_law.post ns)) (startR 18 ns) := by
  intro ns hns
  simp only [W_law, startR, wCallR, wSeq, wSet, wAsg, wExpr, wRet, wIf, wTest, wNotT, wAndT, wOrT, wIfE, w1, w2, wn, wNil, wCons, wVar, varK_iL, varK_d, wC, wLst, wTup, wQ, qVar_eq, qvO_iL, qvO_d, qC, qI, qNeg, qLen, wNext, takesOf, take_al, take_t, takeO_iL, frzsOf, frzOf, datsOf, datOf, on1, on2, put_t, put_al, putO_iL, toD_iL, toD_d, flat_iL, flat_d, lst_nil, lst_one, lst_iE, lst_iD, nil_dT, nil_dL, fList_dL, fList_dT, fTuple_dL, fTuple_dT, fLen_dL, fLen_dT, fSum_dL, fCat_dL, fCat_int, fRep_dL, fRep_int, fSub_int, fMod_int, fDiv_int, fLt_int, fLe_int, fGt_int, fGe_int, fNeg_int, fAbs_int, fMax2_int, fMin2_int, fInt_int, fInt_bool, fSl_dL, fSl_dT, fSl3_dL, fSl3_dT, fEq_int, fNe_int, fEq_dL, fNe_dL, fEq_dT, fNe_dT, items_dL, items_dT, wSl, wSl3, wNo, wPart, wSq_eq, sqK_t, sqK_al, sqO_iL, qIx_eq, qIxK, lstAt_eq, lstO_iL, DL.placeOf, T.get, core_d, re_iL, re_d, T.put, List.getElem?_cons_zero, List.getElem?_cons_succ, List.set_cons_zero, List.set_cons_succ, List.length_cons, List.length_nil, iD_len, iE_len, and_true, true_and, Bool.not_true, Bool.not_false, if_true, if_false, Bool.false_eq_true, decide_eq_true_eq, Bool.not_eq_true', decide_eq_false_iff_not, wFor, wRng1, wRng2, wRng3, wName, endsD, startG, List.map_cons, List.map_nil, List.replicate, List.cons_append, List.nil_append, look, wCall, Option.some.injEq, exists_eq_left', wPar, DL.putAt, wSetQ, wApp_eq, appO_iL, isLst_iL, wPop_eq, popO_iL, Nat.zero_le, not_true_eq_false, not_false_eq_true, wLc, wipeG, restG, toD_iLL, varK_iLL, qvO_iLL, lstO_iLL, re_iLL, lst_iLL, items_tT, items_tL, takeO_iLL, putO_iLL, sqO_iLL, keepD_iLL, wZp, keepD_none, keepD_d, keepD_iL, items_tup, items_lst, wYes, wTTup, wTCons, wTNil, lp_is]
  refine ⟨hns, fun r hr => ?_⟩
  obtain ⟨m, w, rfl, hok⟩ := hr
  try simp only [wSeq, wSet, wAsg, wExpr, wRet, wIf, wTest, wNotT, wAndT, wOrT, wIfE, w1, w2, wn, wNil, wCons, wVar, varK_iL, varK_d, wC, wLst, wTup, wQ, qVar_eq, qvO_iL, qvO_d, qC, qI, qNeg, qLen, wNext, takesOf, take_al, take_t, takeO_iL, frzsOf, frzOf, datsOf, datOf, on1, on2, put_t, put_al, putO_iL, toD_iL, toD_d, flat_iL, flat_d, lst_nil, lst_one, lst_iE, lst_iD, nil_dT, nil_dL, fList_dL, fList_dT, fTuple_dL, fTuple_dT, fLen_dL, fLen_dT, fSum_dL, fCat_dL, fCat_int, fRep_dL, fRep_int, fSub_int, fMod_int, fDiv_int, fLt_int, fLe_int, fGt_int, fGe_int, fNeg_int, fAbs_int, fMax2_int, fMin2_int, fInt_int, fInt_bool, fSl_dL, fSl_dT, fSl3_dL, fSl3_dT, fEq_int, fNe_int, fEq_dL, fNe_dL, fEq_dT, fNe_dT, items_dL, items_dT, wSl, wSl3, wNo, wPart, wSq_eq, sqK_t, sqK_al, sqO_iL, qIx_eq, qIxK, lstAt_eq, lstO_iL, DL.placeOf, T.get, core_d, re_iL, re_d, T.put, List.getElem?_cons_zero, List.getElem?_cons_succ, List.set_cons_zero, List.set_cons_succ, List.length_cons, List.length_nil, iD_len, iE_len, and_true, true_and, Bool.not_true, Bool.not_false, if_true, if_false, Bool.false_eq_true, decide_eq_true_eq, Bool.not_eq_true', decide_eq_false_iff_not, wFor, wRng1, wRng2, wRng3, wName, endsD, startG, List.map_cons, List.map_nil, List.replicate, List.cons_append, List.nil_append, look, wCall, Option.some.injEq, exists_eq_left', wPar, DL.putAt, wSetQ, wApp_eq, appO_iL, isLst_iL, wPop_eq, popO_iL, Nat.zero_le, not_true_eq_false, not_false_eq_true, wLc, wipeG, restG, toD_iLL, varK_iLL, qvO_iLL, lstO_iLL, re_iLL, lst_iLL, items_tT, items_tL, takeO_iLL, putO_iLL, sqO_iLL, keepD_iLL, wZp, keepD_none, keepD_d, keepD_iL, items_tup, items_lst, wYes, wTTup, wTCons, wTNil]
  refine ⟨by decide, ⟨by decide, by decide⟩, ?_⟩
  refine forW_inv (fun i G => ∃ o p x2 x3 x4 x5 x7 x8 x9 x11 x12 x13 x14 x16 x17, PenAt none o p ∧ p.ok ∧ p.t ≤ 10000 * i ∧ G = LG ns o x2 x3 x4 x5 x7 x8 x9 x11 x12 x13 x14 x16 x17)
    (rangeD 0 3) 0 _ ⟨_, ⟨m, 0, w⟩, none, none, none, none, none, none, none, none, none, none, none, none, none, rfl, hok, by show (0 : Int) ≤ _; omega, rfl⟩ (fun i x G hx hI R hR => ?_) (fun G hI => ?_)
  · obtain ⟨hi, rfl⟩ := rangeD_at hx
    obtain ⟨o, p, x2, x3, x4, x5, x7, x8, x9, x11, x12, x13, x14, x16, x17, ho, hp, ht, rfl⟩ := hI
    simp only [wSeq, wSet, wAsg, wExpr, wRet, wIf, wTest, wNotT, wAndT, wOrT, wIfE, w1, w2, wn, wNil, wCons, wVar, varK_iL, varK_d, wC, wLst, wTup, wQ, qVar_eq, qvO_iL, qvO_d, qC, qI, qNeg, qLen, wNext, takesOf, take_al, take_t, takeO_iL, frzsOf, frzOf, datsOf, datOf, on1, on2, put_t, put_al, putO_iL, toD_iL, toD_d, flat_iL, flat_d, lst_nil, lst_one, lst_iE, lst_iD, nil_dT, nil_dL, fList_dL, fList_dT, fTuple_dL, fTuple_dT, fLen_dL, fLen_dT, fSum_dL, fCat_dL, fCat_int, fRep_dL, fRep_int, fSub_int, fMod_int, fDiv_int, fLt_int, fLe_int, fGt_int, fGe_int, fNeg_int, fAbs_int, fMax2_int, fMin2_int, fInt_int, fInt_bool, fSl_dL, fSl_dT, fSl3_dL, fSl3_dT, fEq_int, fNe_int, fEq_dL, fNe_dL, fEq_dT, fNe_dT, items_dL, items_dT, wSl, wSl3, wNo, wPart, wSq_eq, sqK_t, sqK_al, sqO_iL, qIx_eq, qIxK, lstAt_eq, lstO_iL, DL.placeOf, T.get, core_d, re_iL, re_d, T.put, List.getElem?_cons_zero, List.getElem?_cons_succ, List.set_cons_zero, List.set_cons_succ, List.length_cons, List.length_nil, iD_len, iE_len, and_true, true_and, Bool.not_true, Bool.not_false, if_true, if_false, Bool.false_eq_true, decide_eq_true_eq, Bool.not_eq_true', decide_eq_false_iff_not, wFor, wRng1, wRng2, wRng3, wName, endsD, startG, List.map_cons, List.map_nil, List.replicate, List.cons_append, List.nil_append, look, wCall, Option.some.injEq, exists_eq_left', wPar, DL.putAt, wSetQ, wApp_eq, appO_iL, isLst_iL, wPop_eq, popO_iL, Nat.zero_le, not_true_eq_false, not_false_eq_true, wLc, wipeG, restG, toD_iLL, varK_iLL, qvO_iLL, lstO_iLL, re_iLL, lst_iLL, items_tT, items_tL, takeO_iLL, putO_iLL, sqO_iLL, keepD_iLL, wZp, keepD_none, keepD_d, keepD_iL, items_tup, items_lst, wYes, wTTup, wTCons, wTNil]
    refine ⟨by decide, ?_⟩
    refine lp1 ho hp (by omega) fun o q n A b w ord x8 h1 h2 h3 h4 h5 h6 h7 h8 h9 => ?_
    dsimp only
    rw [wSeq]
    refine lp2 h5 h6 h7 h8 h9 ?_
    dsimp only
    rw [wSeq]
    refine lp3 h5 h6 h7 h8 h9 fun x5 x7 => ?_
    dsimp only
    refine lp4 h5 h6 h1 h2 (by omega) fun o q x14 x16 x17 a1 a2 a3 => ?_
    dsimp only
    exact hR _ ⟨o, q, _, _, _, _, _, _, _, _, _, _, _, _, _, a1, a2, by omega, rfl⟩
  · simp only [wSeq, wSet, wAsg, wExpr, wRet, wIf, wTest, wNotT, wAndT, wOrT, wIfE, w1, w2, wn, wNil, wCons, wVar, varK_iL, varK_d, wC, wLst, wTup, wQ, qVar_eq, qvO_iL, qvO_d, qC, qI, qNeg, qLen, wNext, takesOf, take_al, take_t, takeO_iL, frzsOf, frzOf, datsOf, datOf, on1, on2, put_t, put_al, putO_iL, toD_iL, toD_d, flat_iL, flat_d, lst_nil, lst_one, lst_iE, lst_iD, nil_dT, nil_dL, fList_dL, fList_dT, fTuple_dL, fTuple_dT, fLen_dL, fLen_dT, fSum_dL, fCat_dL, fCat_int, fRep_dL, fRep_int, fSub_int, fMod_int, fDiv_int, fLt_int, fLe_int, fGt_int, fGe_int, fNeg_int, fAbs_int, fMax2_int, fMin2_int, fInt_int, fInt_bool, fSl_dL, fSl_dT, fSl3_dL, fSl3_dT, fEq_int, fNe_int, fEq_dL, fNe_dL, fEq_dT, fNe_dT, items_dL, items_dT, wSl, wSl3, wNo, wPart, wSq_eq, sqK_t, sqK_al, sqO_iL, qIx_eq, qIxK, lstAt_eq, lstO_iL, DL.placeOf, T.get, core_d, re_iL, re_d, T.put, List.getElem?_cons_zero, List.getElem?_cons_succ, List.set_cons_zero, List.set_cons_succ, List.length_cons, List.length_nil, iD_len, iE_len, and_true, true_and, Bool.not_true, Bool.not_false, if_true, if_false, Bool.false_eq_true, decide_eq_true_eq, Bool.not_eq_true', decide_eq_false_iff_not, wFor, wRng1, wRng2, wRng3, wName, endsD, startG, List.map_cons, List.map_nil, List.replicate, List.cons_append, List.nil_append, look, wCall, Option.some.injEq, exists_eq_left', wPar, DL.putAt, wSetQ, wApp_eq, appO_iL, isLst_iL, wPop_eq, popO_iL, Nat.zero_le, not_true_eq_false, not_false_eq_true, wLc, wipeG, restG, toD_iLL, varK_iLL, qvO_iLL, lstO_iLL, re_iLL, lst_iLL, items_tT, items_tL, takeO_iLL, putO_iLL, sqO_iLL, keepD_iLL, wZp, keepD_none, keepD_d, keepD_iL, items_tup, items_lst, wYes, wTTup, wTCons, wTNil]
    rfl
end RT
end
section
set_option autoImplicit false
/-! DL20: the end of a law: the promise of its def, over a heap in which nothing watches. -/
namespace DL
open PySem PySem.Spec PyProof.Rows L2
section
variable {h : Heap} {H : Hp} {a : Addr} {oa : Obj}
/-- what is not the script stays -/
theorem hid_stays (hA : ∀ b, H b ≠ none → b = a) (ha : h.get? a = some oa) {b : Addr} {o : Obj}
    (e : h.get? b = some o) (ne : o ≠ oa) : (hidT h H).get? b = some o := by
  refine hidT_get e ?_
  cases q : H b with
  | none => rfl
  | some u =>
    exfalso
    have z := hA b (ne_none_of q)
    rw [z, ha] at e
    exact ne (Option.some.inj e).symm
theorem hid_ns {vs : List Value} (hA : ∀ b, H b ≠ none → b = a)
    (ha : h.get? a = some { cls := .type "list", data := .seq vs.toArray }) {b : Addr} {m : Str → Option Value}
    (n : h.Ns b m) : (hidT h H).Ns b m := by
  obtain ⟨o, es, ep, e, d, r⟩ := n
  refine ⟨o, es, ep, hid_stays hA ha e fun z => ?_, d, r⟩
  rw [z] at d
  cases d
theorem hid_seer {vs : List Value} (hA : ∀ b, H b ≠ none → b = a)
    (ha : h.get? a = some { cls := .type "list", data := .seq vs.toArray }) (s : h.NoSeer) : (hidT h H).NoSeer := by
  obtain ⟨mc, c1, c2⟩ := s.statics
  obtain ⟨mm, m1, m2⟩ := s.mods
  obtain ⟨mb, b1, b2⟩ := s.imp
  obtain ⟨mg, bm, ob, g1, g2, g3, g4, g5⟩ := s.main
  refine ⟨⟨mc, hid_ns hA ha c1, c2⟩, ⟨mm, hid_ns hA ha m1, m2⟩, ⟨mb, hid_ns hA ha b1, b2⟩, ⟨mg, bm, ob, hid_ns hA ha g1, g2, hid_stays hA ha g3 fun z => ?_, g4, g5⟩⟩
  rw [z] at g4
  have g4 : Value.type "list" = Value.type "module" := g4
  exact absurd (Value.type.inj g4) (by decide)
end
/-- what a law's def promises at the top's heap -/
structure Prm (P : Program) (w : World) (K : PySem.W.Frag) (k n : Nat) (x : Str) (mg : Str → Option Value) (fa : Addr) (sp : Sp) : Prop where
  ex : ∃ fd : FuncData, (∀ (s : Shared) (u : Value), BindsTo s fd ⟨[u], []⟩ [(x, u)]) ∧
    ∀ base : Heap, K.In base → base.Ns mainGlobals mg → base.NoSeer → FnOk P w K mg base CX0 k fa fd [x] sp
theorem call_seen {P : Program} {w : World} {K : PySem.W.Frag} {mg mb : Str → Option Value} {k n : Nat} {fa a : Addr} {x : Str} {sp : Sp} {s1 : Shared} {vs : List Value} {ns : List Int}
    (KX : K.In s1.heap) (ng : s1.heap.Ns mainGlobals mg) (nb : s1.heap.Ns builtinsNs mb) (nn : ∀ y : Str, y ≠ "__name__" → mb y = bootBuiltins y)
    (nl : s1.heap.NoLimit) (sr : s1.heap.NoSeer) (ge : s1.gens = #[])
    (ha : s1.heap.get? a = some { cls := .type "list", data := .seq vs.toArray }) (hi : IntsAre vs ns) (hl : ns.length ≤ sizeLine)
    (room : Room k callerA) (F : Prm P w K k n x mg fa sp)
    (hsp : ∀ H : Hp, SqL K H a (ns.map V.int) → sp [.ref a] H (fun v _ => v = .bl true) fun _ _ _ => False) :
    codeAny (model P w) callerA (.call (.ref fa) ⟨[.ref a], []⟩)
      (fun r s2 => r = .ok (.ret (.bool true)) ∧ OldK s1.heap s2.heap ∧ s2.os = s1.os ∧ AllBare s2.gens) s1 := by
  obtain ⟨fd, bnd, FB⟩ := F.ex
  have rv := vals_ints hi
  have main : ∀ H : Hp, Only H → SqL K H a (ns.map V.int) → HOk P w H s1.heap → (∀ b, H b ≠ none → b = a) → (H a ≠ none → K.lookup a = none) →
      codeAny (model P w) callerA (.call (.ref fa) ⟨[.ref a], []⟩)
        (fun r s2 => r = .ok (.ret (.bool true)) ∧ OldK s1.heap s2.heap ∧ s2.os = s1.os ∧ AllBare s2.gens) s1 := by
    intro H only hS hok hA hK
    have kb : K.In (hidT s1.heap H) := by
      intro b o e
      refine hidT_get (KX b o e) ?_
      cases q : H b with
      | none => rfl
      | some u =>
        exfalso
        have z := hA b (ne_none_of q)
        rw [z] at e q
        rw [hK (ne_none_of q)] at e
        cases e
    have md : Mod K mg (hidT s1.heap H) := by
      obtain ⟨mc, l1, l2⟩ := nl
      exact ⟨kb, hid_ns hA ha ng, ⟨mb, hid_ns hA ha nb, nn⟩, ⟨mc, hid_ns hA ha l1, l2⟩⟩
    have en : Env0 P w K mg (hidT s1.heap H) callerA [] s1 H :=
      { frames := rfl, mod := md, bs := fun b o e => of_hidT e, bsz := Nat.le_of_eq (hidT_size _ _), funs := trivial, frf := fun b z => (nomatch z), hok := hok, bare := .of_eq ge }
    have ok := FB _ kb (hid_ns hA ha ng) (hid_seer hA ha sr)
    refine codeAny_mono (ok.run callerA [] s1 H ⟨[.ref a], []⟩ [.ref a] [.ref a] _ _ room en (bnd s1 (.ref a)) (.cons rfl .nil) (hsp H hS)) fun r s2 z => ?_
    match r, z with
    | .error e, z => exact (show False from z).elim
    | .ok .next, z => exact (show False from z).elim
    | .ok .brk, z => exact (show False from z).elim
    | .ok .cont, z => exact (show False from z).elim
    | .ok (.ret u), z =>
      obtain ⟨v, H2, os, bare, un, hok2, rel, q⟩ := z
      have q : v = .bl true := q
      subst q
      have rel : u = Value.bool true := rel
      subst rel
      refine ⟨rfl, OldK.of_keep fun b o e => ?_, os, bare⟩
      rcases only b with z | ⟨ob, xs, z⟩
      · exact un.keep b o e z (fun y => nomatch y) (by simp)
      · have z2 := un.frzs b ob _ z
        have e1 := (hok b _ z).1
        rw [e] at e1
        cases e1
        exact (hok2 b _ z2).1
  by_cases hk : K.lookup a = none
  · refine main (fun b => if b = a then some (.frz { cls := .type "list", data := .seq vs.toArray } (.lst (ns.map V.int))) else none) (fun b => ?_) (.inl (.inr ⟨{ cls := .type "list", data := .seq vs.toArray }, if_pos rfl⟩)) (fun b u z => ?_) (fun b z => ?_) fun _ => hk
    · dsimp only
      split
      · exact .inr ⟨_, _, rfl⟩
      · exact .inl rfl
    · dsimp only at z
      split at z
      · rename_i e
        cases z
        rw [e]
        exact ⟨ha, by rw [List.length_map]; exact hl, vs, _, rv, ha⟩
      · cases z
    · refine Classical.byContradiction fun n => z ?_
      exact if_neg n
  · obtain ⟨o, ho⟩ : ∃ o, K.lookup a = some o := Option.ne_none_iff_exists'.mp hk
    have e := KX a o ho
    rw [ha] at e
    have e := Option.some.inj e
    subst e
    refine main (fun _ => none) (fun _ => .inl rfl) (.inr ⟨_, vs.toArray, _, ho, rfl, rfl, rfl, ?_, by simpa using rv⟩) (fun b u z => (nomatch (show (none : Option HO) = some u from z))) (fun b z => absurd rfl z) fun z => absurd rfl z
    rw [List.size_toArray, hi.length]
    exact hl
/-- the goal that the head leaves -/
theorem walk_seen {l : PySem.W.OpenLaw} {n k : Nat} {q : Program} {loose : List Str} {XP : (Str → Option Value) → Heap → Prop} {YP : World → Heap → Prop} {d : DefRec} {K : Params → PySem.W.Frag} {sp : PySem.W.Frag → Sp} {x : Str}
    (hn : l.most = some n) (hn2 : n ≤ sizeLine) (hdf : d.params.defaults = []) (hq : importsNone q = true) (room : Room k callerA)
    (hY : ∀ (w : World) (h : Heap), YP w h → (K w.params).In h)
    (F : ∀ (w : World) (mg : Str → Option Value) (fa : Addr) (h : Heap), (K w.params).In h → h.Ns mainGlobals mg → mg d.name = some (.ref fa) → Prm l.prog w (K w.params) k n x mg fa (sp (K w.params)))
    (hsp : ∀ (K : PySem.W.Frag) (H : Hp) (a : Addr) (ns : List Int), ns.length ≤ n → SqL K H a (ns.map V.int) → sp K [.ref a] H (fun v _ => v = .bl true) fun _ _ _ => False) :
    PySem.W.WalkO q loose XP YP l.row.toRowW d [] (fun f vs => PySem.call f vs) := by
  refine Att.attach_call hn hdf fun w _ s1 mg mb fa _ _ _ _ a vs ns G Y _ _ _ hmg hobj hints hlen hg => ?_
  have KX := hY w _ Y
  exact call_seen KX G.T.g G.T.b G.T.builtins G.T.nolimit (G.T.seer hq) hg hobj hints (Nat.le_trans hlen hn2) room (F w mg fa _ KX G.T.g hmg) fun H hS => hsp _ H a ns hlen hS
/-- a def of the top: where it stands, under which name -/
structure FnAt (K : PySem.W.Frag) (x : Str) (st : Stmt) : Prop where
  ex : ∃ (f : Addr) (fd : FuncData), Fun K x x st f fd ∧ PySem.W.nsIn K mainGlobals x = some (some (.ref f))
section
variable {K : PySem.W.Frag} {x : Str} {st : Stmt} {f : Addr} {oc : Value} {od an : Option Addr} {osl : Array (Option Value)} {kV doc pm cdv ct : Value} {h : Heap} {mg : Str → Option Value}
theorem fnAt_mk (X : K.In h) (a : PySem.W.nsIn K mainGlobals x = some (some (.ref f)))
    (l : K.lookup f = some ⟨oc, od, .func (PySem.W.fnOf x x (defArgs st) (defBody st) (defScope st) .none kV doc pm an cdv ct), osl⟩)
    (c : PySem.W.codeIn K cdv x = true) (k : PySem.W.keepIn K (.ref f) = true) : FnAt K x st := ⟨⟨f, _, fun_mk l c k, a⟩⟩
theorem none_mk {y : Str} (X : K.In h) (G : h.Ns mainGlobals mg) (e : PySem.W.nsIn K mainGlobals y = some none) : mg y = none := PySem.W.mg_none_of X G e
/-- the law's def, its argument told -/
structure LawAt (K : PySem.W.Frag) (st : Stmt) (y : Str) : Prop where
  ex : ∃ (f : Addr) (fd : FuncData), Fun K "law" "law" st f fd ∧ PySem.W.nsIn K mainGlobals "law" = some (some (.ref f)) ∧ ∀ (s : Shared) (u : Value), BindsTo s fd ⟨[u], []⟩ [(y, u)]
end
end DL
end
section
/-! printed by gen.py: each def does what it reads -/
namespace RT
open PySem PySem.Spec PyProof.Rows L2 DL
def topS (i : Nat) : Stmt := PySem.Challenge.pw_rowtide_k62_whole_tables_turned.main.body.getD i (.Pass ⟨0, 0, 0, 0⟩)
structure Zu (P : Program) (mg : Str → Option Value) (base : Heap) : Prop where
  seer : base.NoSeer
  tree : P.given.tree = none
  B : Bl mg
section
variable {P : Program} {w : World} {K : PySem.W.Frag} {mg : Str → Option Value} {base : Heap}
abbrev st_trimmed : Stmt := topS 1
def N_trimmed : List Str := ["some", "found"]
theorem sc_trimmed : FnScope N_trimmed ["some"] (defScope st_trimmed) := ⟨rfl, rfl, rfl, by decide +kernel, rfl, by decide +kernel, by decide +kernel⟩
theorem ok_trimmed (Z : Zu P mg base) {f : Addr} {fd : FuncData} (F : Fun K "trimmed" "trimmed" st_trimmed f fd) (hm : mg "trimmed" = some (.ref f))  : Def P w K mg base 41 "trimmed" 1 S_trimmed :=
  ok_fn F hm (F.binds fun _ _ _ _ _ _ us hl => match us, hl with | [_], _ => rfl) sc_trimmed Z.seer Z.tree rfl (by decide) (by decide) (fun _ => rfl) fun cdv A outer s H E hr hB =>
    ⟨_, W_trimmed, (pssd_cons (ds 1 sc_trimmed.nd (d_list Z.B (dv 0))) (pssd_cons (psd_while PassesOwn.never (pwd_and (t_ne hr (dv 1) (pd_lst pad_nil)) (pwd_and1 (t_eq hr (pd_q (pq_ix (pq_var 1) (pq_neg pq_int))) pd_int))).pt (pssd_one (psd_expr (d_pop 1)))) (pssd_one (psd_ret (d_tuple Z.B (dv 1)))))), WK_trimmed⟩
abbrev st_divided : Stmt := topS 2
def N_divided : List Str := ["p", "q", "left", "by", "i", "j", "b"]
theorem sc_divided : FnScope N_divided ["p", "q"] (defScope st_divided) := ⟨rfl, rfl, rfl, by decide +kernel, rfl, by decide +kernel, by decide +kernel⟩
theorem ok_divided (Z : Zu P mg base) {f : Addr} {fd : FuncData} (F : Fun K "divided" "divided" st_divided f fd) (hm : mg "divided" = some (.ref f)) (D_trimmed : Def P w K mg base 41 "trimmed" 1 S_trimmed) : Def P w K mg base 42 "divided" 2 S_divided :=
  ok_fn F hm (F.binds fun _ _ _ _ _ _ us hl => match us, hl with | [_, _], _ => rfl) sc_divided Z.seer Z.tree rfl (by decide) (by decide) (fun _ => rfl) fun cdv A outer s H E hr hB =>
    ⟨_, W_divided, (pssd_cons (ds 2 sc_divided.nd (d_list Z.B (dv 0))) (pssd_cons (ds 3 sc_divided.nd (d_mul (pd_lst (pad_cons pd_int pad_nil)) (d_max2 Z.B rfl pd_int (d_add (d_sub (pd_q (pq_len Z.B (pq_var 0))) (pd_q (pq_len Z.B (pq_var 1)))) pd_int)))) (pssd_cons (psd_for PassesOwn.never rfl (i_rng3 Z.B (d_sub (pd_q (pq_len Z.B (pq_var 3))) pd_int) (d_neg pd_int) (d_neg pd_int)) (dn 4 sc_divided.nd) (pssd_cons (psd_setQ (pd_q (pq_ix (pq_var 2) (pq_sub (pq_add (pq_var 4) (pq_len Z.B (pq_var 1))) pq_int))) (pq_var 3) (pq_var 4)) (pssd_one (psd_for PassesOwn.never rfl (i_enum Z.B (dv 1)) (pgd_tup rfl (pgsd_cons (dn 5 sc_divided.nd) (pgsd_cons (dn 6 sc_divided.nd) pgsd_nil))) (pssd_one (psd_setQ (d_sub (pd_q (pq_ix (pq_var 2) (pq_add (pq_var 4) (pq_var 5)))) (d_mul (pd_q (pq_ix (pq_var 3) (pq_var 4))) (dv 6))) (pq_var 2) (pq_add (pq_var 4) (pq_var 5)))))))) (pssd_one (psd_ret (pd_tup (pad_cons (d_call D_trimmed (hr.mono (by decide : 41 ≤ 41)) (pad_cons (dv 3) pad_nil)) (pad_cons (d_call D_trimmed (hr.mono (by decide : 41 ≤ 41)) (pad_cons (dv 2) pad_nil)) pad_nil)))))))), WK_divided⟩
abbrev st_divisor : Stmt := topS 3
def N_divisor : List Str := ["one", "other"]
theorem sc_divisor : FnScope N_divisor ["one", "other"] (defScope st_divisor) := ⟨rfl, rfl, rfl, by decide +kernel, rfl, by decide +kernel, by decide +kernel⟩
theorem ok_divisor (Z : Zu P mg base) {f : Addr} {fd : FuncData} (F : Fun K "divisor" "divisor" st_divisor f fd) (hm : mg "divisor" = some (.ref f))  : Def P w K mg base 41 "divisor" 2 S_divisor :=
  ok_fn F hm (F.binds fun _ _ _ _ _ _ us hl => match us, hl with | [_, _], _ => rfl) sc_divisor Z.seer Z.tree rfl (by decide) (by decide) (fun _ => rfl) fun cdv A outer s H E hr hB =>
    ⟨_, W_divisor, (pssd_cons (psd_while PassesOwn.never (t_ne hr (dv 1) pd_int) (pssd_one (psd_par 0 1 rfl sc_divisor.nd (dv 1) (d_mod (dv 0) (dv 1))))) (pssd_one (psd_ret (d_abs Z.B (dv 0))))), WK_divisor⟩
abbrev st_content : Stmt := topS 4
def N_content : List Str := ["p", "found", "number"]
theorem sc_content : FnScope N_content ["p"] (defScope st_content) := ⟨rfl, rfl, rfl, by decide +kernel, rfl, by decide +kernel, by decide +kernel⟩
theorem ok_content (Z : Zu P mg base) {f : Addr} {fd : FuncData} (F : Fun K "content" "content" st_content f fd) (hm : mg "content" = some (.ref f)) (D_divisor : Def P w K mg base 41 "divisor" 2 S_divisor) : Def P w K mg base 42 "content" 1 S_content :=
  ok_fn F hm (F.binds fun _ _ _ _ _ _ us hl => match us, hl with | [_], _ => rfl) sc_content Z.seer Z.tree rfl (by decide) (by decide) (fun _ => rfl) fun cdv A outer s H E hr hB =>
    ⟨_, W_content, (pssd_cons (ds 1 sc_content.nd pd_int) (pssd_cons (psd_for PassesOwn.never rfl (pid_sq (dv 0)) (dn 2 sc_content.nd) (pssd_one (ds 1 sc_content.nd (d_call D_divisor (hr.mono (by decide : 41 ≤ 41)) (pad_cons (dv 1) (pad_cons (dv 2) pad_nil)))))) (pssd_one (psd_ret (dv 1))))), WK_content⟩
abbrev st_lowest : Stmt := topS 5
def N_lowest : List Str := ["p", "by", "number"]
theorem sc_lowest : FnScope N_lowest ["p"] (defScope st_lowest) := ⟨rfl, rfl, rfl, by decide +kernel, rfl, by decide +kernel, by decide +kernel⟩
theorem ok_lowest (Z : Zu P mg base) {f : Addr} {fd : FuncData} (F : Fun K "lowest" "lowest" st_lowest f fd) (hm : mg "lowest" = some (.ref f)) (D_content : Def P w K mg base 42 "content" 1 S_content) : Def P w K mg base 43 "lowest" 1 S_lowest :=
  ok_fn F hm (F.binds fun _ _ _ _ _ _ us hl => match us, hl with | [_], _ => rfl) sc_lowest Z.seer Z.tree rfl (by decide) (by decide) (fun _ => rfl) fun cdv A outer s H E hr hB =>
    ⟨_, W_lowest, (pssd_cons (psd_if (t_eq hr (dv 0) (pd_tup pad_nil)) (pssd_one (psd_ret (pd_tup pad_nil))) pssd_nil) (pssd_cons (ds 1 sc_lowest.nd (d_call D_content (hr.mono (by decide : 42 ≤ 42)) (pad_cons (dv 0) pad_nil))) (pssd_cons (psd_if (t_lt (pd_q (pq_ix (pq_var 0) (pq_neg pq_int))) pd_int) (pssd_one (ds 1 sc_lowest.nd (d_sub pd_int (dv 1)))) pssd_nil) (pssd_one (psd_ret (d_tuple Z.B (pd_lcE (own := [("number", 2)]) rfl sc_lowest.nd (pid_sq (dv 0)) (blkOk_by (N := N_lowest) (sc := defScope st_lowest) (by decide +kernel)) (fun _ _ _ _ _ => ⟨_, (dn 2 sc_lowest.nd)⟩) rfl (fun _ _ _ _ _ => ⟨_, ptsd_nil⟩) (fun _ _ _ _ _ => ⟨_, (d_div hB.blk (dv 2) (dv 1))⟩)))))))), WK_lowest⟩
abbrev st_left_by : Stmt := topS 6
def N_left_by : List Str := ["p", "q", "left", "top", "number", "shift", "j", "b", "by"]
theorem sc_left_by : FnScope N_left_by ["p", "q"] (defScope st_left_by) := ⟨rfl, rfl, rfl, by decide +kernel, rfl, by decide +kernel, by decide +kernel⟩
theorem ok_left_by (Z : Zu P mg base) {f : Addr} {fd : FuncData} (F : Fun K "left_by" "left_by" st_left_by f fd) (hm : mg "left_by" = some (.ref f)) (D_content : Def P w K mg base 42 "content" 1 S_content) (D_trimmed : Def P w K mg base 41 "trimmed" 1 S_trimmed) : Def P w K mg base 43 "left_by" 2 S_left_by :=
  ok_fn F hm (F.binds fun _ _ _ _ _ _ us hl => match us, hl with | [_, _], _ => rfl) sc_left_by Z.seer Z.tree rfl (by decide) (by decide) (fun _ => rfl) fun cdv A outer s H E hr hB =>
    ⟨_, W_left_by, (pssd_cons (ds 2 sc_left_by.nd (d_list Z.B (dv 0))) (pssd_cons (psd_while PassesOwn.never (t_ge (pd_q (pq_len Z.B (pq_var 2))) (pd_q (pq_len Z.B (pq_var 1)))) (pssd_cons (ds 3 sc_left_by.nd (pd_q (pq_ix (pq_var 2) (pq_neg pq_int)))) (pssd_cons (psd_setLcE (i := 2) (own := [("number", 4)]) rfl sc_left_by.nd rfl rfl rfl (pid_sq (dv 2)) (blkOk_by (N := N_left_by) (sc := defScope st_left_by) (by decide +kernel)) (fun _ _ _ _ _ => ⟨_, (dn 4 sc_left_by.nd)⟩) rfl (fun _ _ _ _ _ => ⟨_, ptsd_nil⟩) (fun _ _ _ _ _ => ⟨_, (d_mul (d_mul (dv 4) (pd_q (pq_ix (pq_var 1) (pq_neg pq_int)))) (pd_q (pq_ix (pq_var 1) (pq_neg pq_int))))⟩)) (pssd_cons (ds 5 sc_left_by.nd (d_sub (pd_q (pq_len Z.B (pq_var 2))) (pd_q (pq_len Z.B (pq_var 1))))) (pssd_cons (psd_for PassesOwn.never rfl (i_enum Z.B (dv 1)) (pgd_tup rfl (pgsd_cons (dn 6 sc_left_by.nd) (pgsd_cons (dn 7 sc_left_by.nd) pgsd_nil))) (pssd_one (psd_setQ (d_sub (pd_q (pq_ix (pq_var 2) (pq_add (pq_var 5) (pq_var 6)))) (d_mul (d_mul (dv 3) (pd_q (pq_ix (pq_var 1) (pq_neg pq_int)))) (dv 7))) (pq_var 2) (pq_add (pq_var 5) (pq_var 6))))) (pssd_one (ds 2 sc_left_by.nd (d_list Z.B (d_call D_trimmed (hr.mono (by decide : 41 ≤ 42)) (pad_cons (dv 2) pad_nil)))))))))) (pssd_cons (ds 8 sc_left_by.nd (d_call D_content (hr.mono (by decide : 42 ≤ 42)) (pad_cons (dv 2) pad_nil))) (pssd_cons (psd_if (t_gt (dv 8) pd_int) (pssd_one (psd_setLcE (i := 2) (own := [("number", 4)]) rfl sc_left_by.nd rfl rfl rfl (pid_sq (dv 2)) (blkOk_by (N := N_left_by) (sc := defScope st_left_by) (by decide +kernel)) (fun _ _ _ _ _ => ⟨_, (dn 4 sc_left_by.nd)⟩) rfl (fun _ _ _ _ _ => ⟨_, ptsd_nil⟩) (fun _ _ _ _ _ => ⟨_, (d_div hB.blk (dv 4) (dv 8))⟩))) pssd_nil) (pssd_one (psd_ret (d_tuple Z.B (dv 2)))))))), WK_left_by⟩
abbrev st_common : Stmt := topS 7
def N_common : List Str := ["p", "q"]
theorem sc_common : FnScope N_common ["p", "q"] (defScope st_common) := ⟨rfl, rfl, rfl, by decide +kernel, rfl, by decide +kernel, by decide +kernel⟩
theorem ok_common (Z : Zu P mg base) {f : Addr} {fd : FuncData} (F : Fun K "common" "common" st_common f fd) (hm : mg "common" = some (.ref f)) (D_left_by : Def P w K mg base 43 "left_by" 2 S_left_by) (D_lowest : Def P w K mg base 43 "lowest" 1 S_lowest) : Def P w K mg base 44 "common" 2 S_common :=
  ok_fn F hm (F.binds fun _ _ _ _ _ _ us hl => match us, hl with | [_, _], _ => rfl) sc_common Z.seer Z.tree rfl (by decide) (by decide) (fun _ => rfl) fun cdv A outer s H E hr hB =>
    ⟨_, W_common, (pssd_cons (psd_while PassesOwn.never (t_ne hr (dv 1) (pd_tup pad_nil)) (pssd_one (psd_par 0 1 rfl sc_common.nd (dv 1) (d_call D_left_by (hr.mono (by decide : 43 ≤ 43)) (pad_cons (dv 0) (pad_cons (dv 1) pad_nil)))))) (pssd_one (psd_ret (d_call D_lowest (hr.mono (by decide : 43 ≤ 43)) (pad_cons (dv 0) pad_nil))))), WK_common⟩
abbrev st_poly_of : Stmt := topS 9
def N_poly_of : List Str := ["row", "part"]
theorem sc_poly_of : FnScope N_poly_of ["row"] (defScope st_poly_of) := ⟨rfl, rfl, rfl, by decide +kernel, rfl, by decide +kernel, by decide +kernel⟩
theorem ok_poly_of (Z : Zu P mg base) {f : Addr} {fd : FuncData} (F : Fun K "poly_of" "poly_of" st_poly_of f fd) (hm : mg "poly_of" = some (.ref f))  : Def P w K mg base 41 "poly_of" 1 S_poly_of :=
  ok_fn F hm (F.binds fun _ _ _ _ _ _ us hl => match us, hl with | [_], _ => rfl) sc_poly_of Z.seer Z.tree rfl (by decide) (by decide) (fun _ => rfl) fun cdv A outer s H E hr hB =>
    ⟨_, W_poly_of, (pssd_one (psd_ret (d_tuple Z.B (d_add (pd_lcE (own := [("part", 1)]) rfl sc_poly_of.nd (pid_sq (pd_sl3 (pd_q (pq_ix (pq_var 0) pq_int)) pod_none pod_none (pod_some (d_neg pd_int)))) (blkOk_by (N := N_poly_of) (sc := defScope st_poly_of) (by decide +kernel)) (fun _ _ _ _ _ => ⟨_, (dn 1 sc_poly_of.nd)⟩) rfl (fun _ _ _ _ _ => ⟨_, ptsd_nil⟩) (fun _ _ _ _ _ => ⟨_, (d_sub pd_int (dv 1))⟩)) (pd_lst (pad_cons pd_int pad_nil)))))), WK_poly_of⟩
abbrev st_told_by : Stmt := topS 10
def N_told_by : List Str := ["poly", "some", "size", "part"]
theorem sc_told_by : FnScope N_told_by ["poly", "some"] (defScope st_told_by) := ⟨rfl, rfl, rfl, by decide +kernel, rfl, by decide +kernel, by decide +kernel⟩
theorem ok_told_by (Z : Zu P mg base) {f : Addr} {fd : FuncData} (F : Fun K "told_by" "told_by" st_told_by f fd) (hm : mg "told_by" = some (.ref f))  : Def P w K mg base 41 "told_by" 2 S_told_by :=
  ok_fn F hm (F.binds fun _ _ _ _ _ _ us hl => match us, hl with | [_, _], _ => rfl) sc_told_by Z.seer Z.tree rfl (by decide) (by decide) (fun _ => rfl) fun cdv A outer s H E hr hB =>
    ⟨_, W_told_by, (pssd_cons (ds 2 sc_told_by.nd (d_sub (pd_q (pq_len Z.B (pq_var 0))) pd_int)) (pssd_one (psd_ret (pd_tup (pad_cons (d_tuple Z.B (pd_lcE (own := [("part", 3)]) rfl sc_told_by.nd (pid_sq (pd_sl3 (pd_sl (dv 0) pod_none (pod_some (d_neg pd_int))) pod_none pod_none (pod_some (d_neg pd_int)))) (blkOk_by (N := N_told_by) (sc := defScope st_told_by) (by decide +kernel)) (fun _ _ _ _ _ => ⟨_, (dn 3 sc_told_by.nd)⟩) rfl (fun _ _ _ _ _ => ⟨_, ptsd_nil⟩) (fun _ _ _ _ _ => ⟨_, (d_sub pd_int (dv 3))⟩))) (pad_cons (d_tuple Z.B (pd_sl (dv 1) pod_none (pod_some (dv 2)))) pad_nil)))))), WK_told_by⟩
abbrev st_upper : Stmt := topS 11
def N_upper : List Str := ["row", "sums", "first", "found", "i", "j"]
theorem sc_upper : FnScope N_upper ["row"] (defScope st_upper) := ⟨rfl, rfl, rfl, by decide +kernel, rfl, by decide +kernel, by decide +kernel⟩
theorem ok_upper (Z : Zu P mg base) {f : Addr} {fd : FuncData} (F : Fun K "upper" "upper" st_upper f fd) (hm : mg "upper" = some (.ref f)) (D_trimmed : Def P w K mg base 41 "trimmed" 1 S_trimmed) : Def P w K mg base 42 "upper" 1 S_upper :=
  ok_fn F hm (F.binds fun _ _ _ _ _ _ us hl => match us, hl with | [_], _ => rfl) sc_upper Z.seer Z.tree rfl (by decide) (by decide) (fun _ => rfl) fun cdv A outer s H E hr hB =>
    ⟨_, W_upper, (pssd_cons (psd_asg (dv 0) (pgd_tup rfl (pgsd_cons (dn 1 sc_upper.nd) (pgsd_cons (dn 2 sc_upper.nd) pgsd_nil)))) (pssd_cons (ds 3 sc_upper.nd (pd_lst pad_nil)) (pssd_cons (psd_for PassesOwn.never rfl (i_rng1 Z.B (pd_q (pq_len Z.B (pq_var 2)))) (dn 4 sc_upper.nd) (pssd_one (psd_expr (d_append 3 (d_sub (pd_q (pq_ix (pq_var 2) (pq_var 4))) (d_sum Z.B rfl (pd_lcE (own := [("j", 5)]) rfl sc_upper.nd (i_rng1 Z.B (dv 4)) (blkOk_by (N := N_upper) (sc := defScope st_upper) (by decide +kernel)) (fun _ _ _ _ _ => ⟨_, (dn 5 sc_upper.nd)⟩) rfl (fun _ _ _ _ _ => ⟨_, ptsd_nil⟩) (fun _ _ _ _ _ => ⟨_, (d_mul (pd_q (pq_ix (pq_var 1) (pq_var 5))) (pd_q (pq_ix (pq_var 2) (pq_sub (pq_sub (pq_var 4) pq_int) (pq_var 5)))))⟩)))))))) (pssd_one (psd_ret (d_call D_trimmed (hr.mono (by decide : 41 ≤ 41)) (pad_cons (pd_sl3 (dv 3) pod_none pod_none (pod_some (d_neg pd_int))) pad_nil))))))), WK_upper⟩
abbrev st_least : Stmt := topS 12
def N_least : List Str := ["row", "poly", "own"]
theorem sc_least : FnScope N_least ["row"] (defScope st_least) := ⟨rfl, rfl, rfl, by decide +kernel, rfl, by decide +kernel, by decide +kernel⟩
theorem ok_least (Z : Zu P mg base) {f : Addr} {fd : FuncData} (F : Fun K "least" "least" st_least f fd) (hm : mg "least" = some (.ref f)) (D_common : Def P w K mg base 44 "common" 2 S_common) (D_divided : Def P w K mg base 42 "divided" 2 S_divided) (D_poly_of : Def P w K mg base 41 "poly_of" 1 S_poly_of) (D_told_by : Def P w K mg base 41 "told_by" 2 S_told_by) (D_upper : Def P w K mg base 42 "upper" 1 S_upper) : Def P w K mg base 45 "least" 1 S_least :=
  ok_fn F hm (F.binds fun _ _ _ _ _ _ us hl => match us, hl with | [_], _ => rfl) sc_least Z.seer Z.tree rfl (by decide) (by decide) (fun _ => rfl) fun cdv A outer s H E hr hB =>
    ⟨_, W_least, (pssd_cons (ds 1 sc_least.nd (d_call D_poly_of (hr.mono (by decide : 41 ≤ 44)) (pad_cons (dv 0) pad_nil))) (pssd_cons (ds 2 sc_least.nd (d_ix (d_call D_divided (hr.mono (by decide : 42 ≤ 44)) (pad_cons (dv 1) (pad_cons (d_call D_common (hr.mono (by decide : 44 ≤ 44)) (pad_cons (dv 1) (pad_cons (d_call D_upper (hr.mono (by decide : 42 ≤ 44)) (pad_cons (dv 0) pad_nil)) pad_nil))) pad_nil))) pd_int)) (pssd_one (psd_ret (d_call D_told_by (hr.mono (by decide : 41 ≤ 44)) (pad_cons (dv 2) (pad_cons (pd_q (pq_ix (pq_var 0) pq_int)) pad_nil))))))), WK_least⟩
abbrev st_by : Stmt := topS 14
def N_by : List Str := ["poly", "some"]
theorem sc_by : FnScope N_by ["poly", "some"] (defScope st_by) := ⟨rfl, rfl, rfl, by decide +kernel, rfl, by decide +kernel, by decide +kernel⟩
theorem ok_by (Z : Zu P mg base) {f : Addr} {fd : FuncData} (F : Fun K "by" "by" st_by f fd) (hm : mg "by" = some (.ref f)) (D_least : Def P w K mg base 45 "least" 1 S_least) (D_told_by : Def P w K mg base 41 "told_by" 2 S_told_by) : Def P w K mg base 46 "by" 2 S_by :=
  ok_fn F hm (F.binds fun _ _ _ _ _ _ us hl => match us, hl with | [_, _], _ => rfl) sc_by Z.seer Z.tree rfl (by decide) (by decide) (fun _ => rfl) fun cdv A outer s H E hr hB =>
    ⟨_, W_by, (pssd_one (psd_ret (d_call D_least (hr.mono (by decide : 45 ≤ 45)) (pad_cons (d_call D_told_by (hr.mono (by decide : 41 ≤ 45)) (pad_cons (dv 0) (pad_cons (dv 1) pad_nil))) pad_nil)))), WK_by⟩
abbrev st_power_sums : Stmt := topS 15
def N_power_sums : List Str := ["poly", "many", "size", "found", "m", "total", "i"]
theorem sc_power_sums : FnScope N_power_sums ["poly", "many"] (defScope st_power_sums) := ⟨rfl, rfl, rfl, by decide +kernel, rfl, by decide +kernel, by decide +kernel⟩
theorem ok_power_sums (Z : Zu P mg base) {f : Addr} {fd : FuncData} (F : Fun K "power_sums" "power_sums" st_power_sums f fd) (hm : mg "power_sums" = some (.ref f))  : Def P w K mg base 41 "power_sums" 2 S_power_sums :=
  ok_fn F hm (F.binds fun _ _ _ _ _ _ us hl => match us, hl with | [_, _], _ => rfl) sc_power_sums Z.seer Z.tree rfl (by decide) (by decide) (fun _ => rfl) fun cdv A outer s H E hr hB =>
    ⟨_, W_power_sums, (pssd_cons (ds 2 sc_power_sums.nd (d_sub (pd_q (pq_len Z.B (pq_var 0))) pd_int)) (pssd_cons (ds 3 sc_power_sums.nd (pd_lst (pad_cons (dv 2) pad_nil))) (pssd_cons (psd_for PassesOwn.never rfl (i_rng2 Z.B pd_int (d_add (dv 1) pd_int)) (dn 4 sc_power_sums.nd) (pssd_cons (ds 5 sc_power_sums.nd pd_int) (pssd_cons (psd_for PassesOwn.never rfl (i_rng2 Z.B pd_int (d_min2 Z.B rfl (dv 4) (d_add (dv 2) pd_int))) (dn 6 sc_power_sums.nd) (pssd_one (ds 5 sc_power_sums.nd (d_sub (dv 5) (d_mul (pd_q (pq_ix (pq_var 0) (pq_sub (pq_var 2) (pq_var 6)))) (pd_q (pq_ix (pq_var 3) (pq_sub (pq_var 4) (pq_var 6))))))))) (pssd_cons (psd_if (t_le (dv 4) (dv 2)) (pssd_one (ds 5 sc_power_sums.nd (d_sub (dv 5) (d_mul (dv 4) (pd_q (pq_ix (pq_var 0) (pq_sub (pq_var 2) (pq_var 4)))))))) pssd_nil) (pssd_one (psd_expr (d_append 3 (dv 5)))))))) (pssd_one (psd_ret (dv 3)))))), WK_power_sums⟩
abbrev st_carried : Stmt := topS 17
def N_carried : List Str := ["table", "some", "a", "b", "line"]
theorem sc_carried : FnScope N_carried ["table", "some"] (defScope st_carried) := ⟨rfl, rfl, rfl, by decide +kernel, rfl, by decide +kernel, by decide +kernel⟩
theorem ok_carried (Z : Zu P mg base) {f : Addr} {fd : FuncData} (F : Fun K "carried" "carried" st_carried f fd) (hm : mg "carried" = some (.ref f))  : Def P w K mg base 41 "carried" 2 S_carried :=
  ok_fn F hm (F.binds fun _ _ _ _ _ _ us hl => match us, hl with | [_, _], _ => rfl) sc_carried Z.seer Z.tree rfl (by decide) (by decide) (fun _ => rfl) fun cdv A outer s H E hr hB =>
    ⟨_, W_carried, (pssd_one (psd_ret (pd_lcE (own := [("line", 4)]) rfl sc_carried.nd (pid_sq (dv 0)) (blkOk_by (N := N_carried) (sc := defScope st_carried) (by decide +kernel)) (fun _ _ _ _ _ => ⟨_, (dn 4 sc_carried.nd)⟩) rfl (fun _ _ _ _ _ => ⟨_, ptsd_nil⟩) (fun _ _ _ _ _ => ⟨_, (d_sum Z.B rfl (pd_lcE (own := [("a", 2), ("b", 3)]) rfl sc_carried.nd (i_zip Z.B (dv 4) (dv 1)) (blkOk_by (N := N_carried) (sc := relS _ (defScope st_carried)) (by decide +kernel)) (fun _ _ _ _ _ => ⟨_, (pgd_tup rfl (pgsd_cons (dn 2 sc_carried.nd) (pgsd_cons (dn 3 sc_carried.nd) pgsd_nil)))⟩) rfl (fun _ _ _ _ _ => ⟨_, ptsd_nil⟩) (fun _ _ _ _ _ => ⟨_, (d_mul (dv 2) (dv 3))⟩)))⟩)))), WK_carried⟩
abbrev st_multiplied_by : Stmt := topS 18
def N_multiplied_by : List Str := ["one", "other", "columns", "line", "i", "a", "b", "column"]
theorem sc_multiplied_by : FnScope N_multiplied_by ["one", "other"] (defScope st_multiplied_by) := ⟨rfl, rfl, rfl, by decide +kernel, rfl, by decide +kernel, by decide +kernel⟩
theorem ok_multiplied_by (Z : Zu P mg base) {f : Addr} {fd : FuncData} (F : Fun K "multiplied_by" "multiplied_by" st_multiplied_by f fd) (hm : mg "multiplied_by" = some (.ref f))  : Def P w K mg base 41 "multiplied_by" 2 S_multiplied_by :=
  ok_fn F hm (F.binds fun _ _ _ _ _ _ us hl => match us, hl with | [_, _], _ => rfl) sc_multiplied_by Z.seer Z.tree rfl (by decide) (by decide) (fun _ => rfl) fun cdv A outer s H E hr hB =>
    ⟨_, W_multiplied_by, (pssd_cons (ds 2 sc_multiplied_by.nd (pd_lcE (own := [("i", 4)]) rfl sc_multiplied_by.nd (i_rng1 Z.B (pd_q (pq_len Z.B (pq_var 1)))) (blkOk_by (N := N_multiplied_by) (sc := defScope st_multiplied_by) (by decide +kernel)) (fun _ _ _ _ _ => ⟨_, (dn 4 sc_multiplied_by.nd)⟩) rfl (fun _ _ _ _ _ => ⟨_, ptsd_nil⟩) (fun _ _ _ _ _ => ⟨_, (pd_lcE (own := [("line", 3)]) rfl sc_multiplied_by.nd (pid_sq (dv 1)) (blkOk_by (N := N_multiplied_by) (sc := relS _ (defScope st_multiplied_by)) (by decide +kernel)) (fun _ _ _ _ _ => ⟨_, (dn 3 sc_multiplied_by.nd)⟩) rfl (fun _ _ _ _ _ => ⟨_, ptsd_nil⟩) (fun _ _ _ _ _ => ⟨_, (pd_q (pq_ix (pq_var 3) (pq_var 4)))⟩))⟩))) (pssd_one (psd_ret (pd_lcE (own := [("line", 3)]) rfl sc_multiplied_by.nd (pid_sq (dv 0)) (blkOk_by (N := N_multiplied_by) (sc := defScope st_multiplied_by) (by decide +kernel)) (fun _ _ _ _ _ => ⟨_, (dn 3 sc_multiplied_by.nd)⟩) rfl (fun _ _ _ _ _ => ⟨_, ptsd_nil⟩) (fun _ _ _ _ _ => ⟨_, (pd_lcE (own := [("column", 7)]) rfl sc_multiplied_by.nd (pid_sq (dv 2)) (blkOk_by (N := N_multiplied_by) (sc := relS _ (defScope st_multiplied_by)) (by decide +kernel)) (fun _ _ _ _ _ => ⟨_, (dn 7 sc_multiplied_by.nd)⟩) rfl (fun _ _ _ _ _ => ⟨_, ptsd_nil⟩) (fun _ _ _ _ _ => ⟨_, (d_sum Z.B rfl (pd_lcE (own := [("a", 5), ("b", 6)]) rfl sc_multiplied_by.nd (i_zip Z.B (dv 3) (dv 7)) (blkOk_by (N := N_multiplied_by) (sc := relS _ (relS _ (defScope st_multiplied_by))) (by decide +kernel)) (fun _ _ _ _ _ => ⟨_, (pgd_tup rfl (pgsd_cons (dn 5 sc_multiplied_by.nd) (pgsd_cons (dn 6 sc_multiplied_by.nd) pgsd_nil)))⟩) rfl (fun _ _ _ _ _ => ⟨_, ptsd_nil⟩) (fun _ _ _ _ _ => ⟨_, (d_mul (dv 5) (dv 6))⟩)))⟩))⟩))))), WK_multiplied_by⟩
abbrev st_own_poly : Stmt := topS 19
def N_own_poly : List Str := ["table", "size", "falling", "now", "line", "m", "i", "trace", "a", "b"]
theorem sc_own_poly : FnScope N_own_poly ["table"] (defScope st_own_poly) := ⟨rfl, rfl, rfl, by decide +kernel, rfl, by decide +kernel, by decide +kernel⟩
theorem ok_own_poly (Z : Zu P mg base) {f : Addr} {fd : FuncData} (F : Fun K "own_poly" "own_poly" st_own_poly f fd) (hm : mg "own_poly" = some (.ref f)) (D_multiplied_by : Def P w K mg base 41 "multiplied_by" 2 S_multiplied_by) : Def P w K mg base 42 "own_poly" 1 S_own_poly :=
  ok_fn F hm (F.binds fun _ _ _ _ _ _ us hl => match us, hl with | [_], _ => rfl) sc_own_poly Z.seer Z.tree rfl (by decide) (by decide) (fun _ => rfl) fun cdv A outer s H E hr hB =>
    ⟨_, W_own_poly, (pssd_cons (ds 1 sc_own_poly.nd (pd_q (pq_len Z.B (pq_var 0)))) (pssd_cons (ds 2 sc_own_poly.nd (pd_lst (pad_cons pd_int pad_nil))) (pssd_cons (ds 3 sc_own_poly.nd (pd_lcE (own := [("line", 4)]) rfl sc_own_poly.nd (pid_sq (dv 0)) (blkOk_by (N := N_own_poly) (sc := defScope st_own_poly) (by decide +kernel)) (fun _ _ _ _ _ => ⟨_, (dn 4 sc_own_poly.nd)⟩) rfl (fun _ _ _ _ _ => ⟨_, ptsd_nil⟩) (fun _ _ _ _ _ => ⟨_, (d_mul (pd_lst (pad_cons pd_int pad_nil)) (dv 1))⟩))) (pssd_cons (psd_for PassesOwn.never rfl (i_rng2 Z.B pd_int (d_add (dv 1) pd_int)) (dn 5 sc_own_poly.nd) (pssd_cons (ds 3 sc_own_poly.nd (d_call D_multiplied_by (hr.mono (by decide : 41 ≤ 41)) (pad_cons (dv 0) (pad_cons (dv 3) pad_nil)))) (pssd_cons (psd_for PassesOwn.never rfl (i_rng1 Z.B (dv 1)) (dn 6 sc_own_poly.nd) (pssd_one (psd_setQ (d_add (pd_q (pq_ix (pq_ix (pq_var 3) (pq_var 6)) (pq_var 6))) (pd_q (pq_ix (pq_var 2) (pq_neg pq_int)))) (pq_ix (pq_var 3) (pq_var 6)) (pq_var 6)))) (pssd_cons (ds 7 sc_own_poly.nd (d_sum Z.B rfl (pd_lcE (own := [("i", 6)]) rfl sc_own_poly.nd (i_rng1 Z.B (dv 1)) (blkOk_by (N := N_own_poly) (sc := defScope st_own_poly) (by decide +kernel)) (fun _ _ _ _ _ => ⟨_, (dn 6 sc_own_poly.nd)⟩) rfl (fun _ _ _ _ _ => ⟨_, ptsd_nil⟩) (fun _ _ _ _ _ => ⟨_, (d_sum Z.B rfl (pd_lcE (own := [("a", 8), ("b", 9)]) rfl sc_own_poly.nd (i_zip Z.B (pd_q (pq_ix (pq_var 0) (pq_var 6))) (pd_lcE (own := [("line", 4)]) rfl sc_own_poly.nd (pid_sq (dv 3)) (blkOk_by (N := N_own_poly) (sc := relS _ (defScope st_own_poly)) (by decide +kernel)) (fun _ _ _ _ _ => ⟨_, (dn 4 sc_own_poly.nd)⟩) rfl (fun _ _ _ _ _ => ⟨_, ptsd_nil⟩) (fun _ _ _ _ _ => ⟨_, (pd_q (pq_ix (pq_var 4) (pq_var 6)))⟩))) (blkOk_by (N := N_own_poly) (sc := relS _ (defScope st_own_poly)) (by decide +kernel)) (fun _ _ _ _ _ => ⟨_, (pgd_tup rfl (pgsd_cons (dn 8 sc_own_poly.nd) (pgsd_cons (dn 9 sc_own_poly.nd) pgsd_nil)))⟩) rfl (fun _ _ _ _ _ => ⟨_, ptsd_nil⟩) (fun _ _ _ _ _ => ⟨_, (d_mul (dv 8) (dv 9))⟩)))⟩)))) (pssd_one (psd_expr (d_append 2 (d_sub pd_int (d_div hB (dv 7) (dv 5)))))))))) (pssd_one (psd_ret (d_tuple Z.B (pd_sl3 (dv 2) pod_none pod_none (pod_some (d_neg pd_int)))))))))), WK_own_poly⟩
abbrev st_row_of : Stmt := topS 20
def N_row_of : List Str := ["table", "begin", "weights", "found", "some", "n", "a", "b"]
theorem sc_row_of : FnScope N_row_of ["table", "begin", "weights"] (defScope st_row_of) := ⟨rfl, rfl, rfl, by decide +kernel, rfl, by decide +kernel, by decide +kernel⟩
theorem ok_row_of (Z : Zu P mg base) {f : Addr} {fd : FuncData} (F : Fun K "row_of" "row_of" st_row_of f fd) (hm : mg "row_of" = some (.ref f)) (D_by : Def P w K mg base 46 "by" 2 S_by) (D_carried : Def P w K mg base 41 "carried" 2 S_carried) (D_own_poly : Def P w K mg base 42 "own_poly" 1 S_own_poly) : Def P w K mg base 47 "row_of" 3 S_row_of :=
  ok_fn F hm (F.binds fun _ _ _ _ _ _ us hl => match us, hl with | [_, _, _], _ => rfl) sc_row_of Z.seer Z.tree rfl (by decide) (by decide) (fun _ => rfl) fun cdv A outer s H E hr hB =>
    ⟨_, W_row_of, (pssd_cons (ds 3 sc_row_of.nd (pd_lst pad_nil)) (pssd_cons (ds 4 sc_row_of.nd (d_list Z.B (dv 1))) (pssd_cons (psd_for PassesOwn.never rfl (i_rng1 Z.B (pd_q (pq_len Z.B (pq_var 0)))) (dn 5 sc_row_of.nd) (pssd_cons (psd_expr (d_append 3 (d_sum Z.B rfl (pd_lcE (own := [("a", 6), ("b", 7)]) rfl sc_row_of.nd (i_zip Z.B (dv 2) (dv 4)) (blkOk_by (N := N_row_of) (sc := defScope st_row_of) (by decide +kernel)) (fun _ _ _ _ _ => ⟨_, (pgd_tup rfl (pgsd_cons (dn 6 sc_row_of.nd) (pgsd_cons (dn 7 sc_row_of.nd) pgsd_nil)))⟩) rfl (fun _ _ _ _ _ => ⟨_, ptsd_nil⟩) (fun _ _ _ _ _ => ⟨_, (d_mul (dv 6) (dv 7))⟩))))) (pssd_one (ds 4 sc_row_of.nd (d_call D_carried (hr.mono (by decide : 41 ≤ 46)) (pad_cons (dv 0) (pad_cons (dv 4) pad_nil))))))) (pssd_one (psd_ret (d_call D_by (hr.mono (by decide : 46 ≤ 46)) (pad_cons (d_call D_own_poly (hr.mono (by decide : 42 ≤ 46)) (pad_cons (dv 0) pad_nil)) (pad_cons (dv 3) pad_nil)))))))), WK_row_of⟩
abbrev st_traces : Stmt := topS 21
def N_traces : List Str := ["table", "poly"]
theorem sc_traces : FnScope N_traces ["table"] (defScope st_traces) := ⟨rfl, rfl, rfl, by decide +kernel, rfl, by decide +kernel, by decide +kernel⟩
theorem ok_traces (Z : Zu P mg base) {f : Addr} {fd : FuncData} (F : Fun K "traces" "traces" st_traces f fd) (hm : mg "traces" = some (.ref f)) (D_by : Def P w K mg base 46 "by" 2 S_by) (D_own_poly : Def P w K mg base 42 "own_poly" 1 S_own_poly) (D_power_sums : Def P w K mg base 41 "power_sums" 2 S_power_sums) : Def P w K mg base 47 "traces" 1 S_traces :=
  ok_fn F hm (F.binds fun _ _ _ _ _ _ us hl => match us, hl with | [_], _ => rfl) sc_traces Z.seer Z.tree rfl (by decide) (by decide) (fun _ => rfl) fun cdv A outer s H E hr hB =>
    ⟨_, W_traces, (pssd_cons (ds 1 sc_traces.nd (d_call D_own_poly (hr.mono (by decide : 42 ≤ 46)) (pad_cons (dv 0) pad_nil))) (pssd_one (psd_ret (d_call D_by (hr.mono (by decide : 46 ≤ 46)) (pad_cons (dv 1) (pad_cons (d_call D_power_sums (hr.mono (by decide : 41 ≤ 46)) (pad_cons (dv 1) (pad_cons (pd_q (pq_len Z.B (pq_var 0))) pad_nil))) pad_nil)))))), WK_traces⟩
abbrev st__law_tpen : Stmt := topS 23
def N__law_tpen : List Str := ["_law_script", "_law_mixed", "_law_cell"]
theorem sc__law_tpen : FnScope N__law_tpen ["_law_script"] (defScope st__law_tpen) := ⟨rfl, rfl, rfl, by decide +kernel, rfl, by decide +kernel, by decide +kernel⟩
theorem ok__law_tpen (Z : Zu P mg base) {f : Addr} {fd : FuncData} (F : Fun K "_law_tpen" "_law_tpen" st__law_tpen f fd) (hm : mg "_law_tpen" = some (.ref f))  : DefR P w K mg base 41 "_law_tpen" S__law_tpen :=
  ok_fnR F hm (F.binds fun _ _ _ _ _ _ us hl => match us, hl with | [_], _ => rfl) sc__law_tpen Z.seer Z.tree (by decide) (by decide) fun cdv A outer s H E hr hB =>
    ⟨_, W__law_tpen, (pssd_cons (ds 1 sc__law_tpen.nd pd_int) (pssd_cons (psd_for PassesOwn.never rfl (pid_sq (dv 0)) (dn 2 sc__law_tpen.nd) (pssd_one (ds 1 sc__law_tpen.nd (d_mod (d_add (d_add (d_mul (dv 1) pd_int) (d_mod (dv 2) pd_int)) pd_int) pd_int)))) (pssd_one (psd_ret (pd_dict (ppd_cons (dv 1) (ppd_cons pd_int (ppd_cons (pd_lcE (own := [("_law_cell", 2)]) rfl sc__law_tpen.nd (pid_sq (dv 0)) (blkOk_by (N := N__law_tpen) (sc := defScope st__law_tpen) (by decide +kernel)) (fun _ _ _ _ _ => ⟨_, (dn 2 sc__law_tpen.nd)⟩) rfl (fun _ _ _ _ _ => ⟨_, (ptsd_one (t_ge (dv 2) (d_pow pd_int pd_int)))⟩) (fun _ _ _ _ _ => ⟨_, (dv 2)⟩)) ppd_nil)))))))), WK__law_tpen⟩
abbrev st__law_tdraw : Stmt := topS 24
def N__law_tdraw : List Str := ["_law_pen", "_law_many", "_law_found", "_law_one", "_law_two"]
theorem sc__law_tdraw : FnScope N__law_tdraw ["_law_pen", "_law_many"] (defScope st__law_tdraw) := ⟨rfl, rfl, rfl, by decide +kernel, rfl, by decide +kernel, by decide +kernel⟩
theorem ok__law_tdraw (Z : Zu P mg base) {f : Addr} {fd : FuncData} (F : Fun K "_law_tdraw" "_law_tdraw" st__law_tdraw f fd) (hm : mg "_law_tdraw" = some (.ref f))  : DefO P w K mg base 41 "_law_tdraw" 2 S__law_tdraw :=
  ok_fnO F hm (F.binds fun _ _ _ _ _ _ us hl => match us, hl with | [_, _], _ => rfl) sc__law_tdraw Z.seer Z.tree rfl (by decide) (by decide) (fun _ => rfl) fun cdv A outer s H E hr hB =>
    ⟨_, W__law_tdraw, (pssd_cons (psd_if (pwd_and (t_gt (pd_q (pq_len Z.B (pq_key (hu_of hr) (pq_var 0)))) pd_int) (pwd_and1 (t_lt (pd_q (pq_ix (pq_key (hu_of hr) (pq_var 0)) pq_int)) (dv 1)))).pt (pssd_one (psd_expr (d_popQ (pq_key (hu_of hr) (pq_var 0)) pq_int))) pssd_nil) (pssd_cons (psd_if (t_gt (pd_q (pq_len Z.B (pq_key (hu_of hr) (pq_var 0)))) pd_int) (pssd_cons (ds 2 sc__law_tdraw.nd (d_mod (pd_q (pq_ix (pq_key (hu_of hr) (pq_var 0)) pq_int)) (dv 1))) (pssd_cons (psd_setQ (d_div hB (pd_q (pq_ix (pq_key (hu_of hr) (pq_var 0)) pq_int)) (dv 1)) (pq_key (hu_of hr) (pq_var 0)) pq_int) (pssd_one (psd_ret (dv 2))))) pssd_nil) (pssd_cons (psd_putQ (hu_of hr) (d_add (pd_q (pq_key (hu_of hr) (pq_var 0))) pd_int) (pq_var 0)) (pssd_cons (ds 3 sc__law_tdraw.nd (d_mod (d_add (pd_q (pq_key (hu_of hr) (pq_var 0))) (d_mul (d_mul pd_int (pd_q (pq_key (hu_of hr) (pq_var 0)))) (pd_q (pq_key (hu_of hr) (pq_var 0))))) pd_int)) (pssd_cons (ds 4 sc__law_tdraw.nd (d_mod (d_add (d_add (d_mul (dv 3) (dv 3)) (d_mul pd_int (pd_q (pq_key (hu_of hr) (pq_var 0))))) pd_int) pd_int)) (pssd_one (psd_ret (d_mod (d_div hB (d_mod (d_add (d_mul (dv 4) (dv 4)) (dv 3)) pd_int) pd_int) (dv 1))))))))), WK__law_tdraw⟩
abbrev st__law_ttable : Stmt := topS 25
def N__law_ttable : List Str := ["_law_pen", "_law_most", "_law_wide", "_law_size", "_law_often", "_law_rows", "_law_k", "_law_line", "_law_j", "_law_number"]
theorem sc__law_ttable : FnScope N__law_ttable ["_law_pen", "_law_most", "_law_wide"] (defScope st__law_ttable) := ⟨rfl, rfl, rfl, by decide +kernel, rfl, by decide +kernel, by decide +kernel⟩
theorem ok__law_ttable (Z : Zu P mg base) {f : Addr} {fd : FuncData} (F : Fun K "_law_ttable" "_law_ttable" st__law_ttable f fd) (hm : mg "_law_ttable" = some (.ref f)) (D__law_tdraw : DefO P w K mg base 41 "_law_tdraw" 2 S__law_tdraw) : DefO P w K mg base 42 "_law_ttable" 3 S__law_ttable :=
  ok_fnO F hm (F.binds fun _ _ _ _ _ _ us hl => match us, hl with | [_, _, _], _ => rfl) sc__law_ttable Z.seer Z.tree rfl (by decide) (by decide) (fun _ => rfl) fun cdv A outer s H E hr hB =>
    ⟨_, W__law_ttable, (pssd_cons (ds 3 sc__law_ttable.nd (d_add pd_int (pd_callO 0 D__law_tdraw (hr.mono (by decide : 41 ≤ 41)) (pad_cons (dv 1) pad_nil)))) (pssd_cons (ds 4 sc__law_ttable.nd (d_add pd_int (pd_callO 0 D__law_tdraw (hr.mono (by decide : 41 ≤ 41)) (pad_cons pd_int pad_nil)))) (pssd_cons (ds 5 sc__law_ttable.nd (pd_lst pad_nil)) (pssd_cons (psd_for PassesOwn.never rfl (i_rng1 Z.B (dv 3)) (dn 6 sc__law_ttable.nd) (pssd_cons (psd_setLcE (i := 7) (own := [("_law_j", 8)]) rfl sc__law_ttable.nd rfl rfl rfl (i_rng1 Z.B (dv 3)) (blkOk_by (N := N__law_ttable) (sc := defScope st__law_ttable) (by decide +kernel)) (fun _ _ _ _ _ => ⟨_, (dn 8 sc__law_ttable.nd)⟩) rfl (fun _ _ _ _ _ => ⟨_, ptsd_nil⟩) (fun _ _ _ _ _ => ⟨_, (d_sub (pd_callO 0 D__law_tdraw (hr.mono (by decide : 41 ≤ 41)) (pad_cons (d_add (d_mul pd_int (dv 2)) pd_int) pad_nil)) (dv 2))⟩)) (pssd_one (psd_expr (d_append 5 (d_tuple Z.B (pd_lcE (own := [("_law_number", 9)]) rfl sc__law_ttable.nd (pid_sq (dv 7)) (blkOk_by (N := N__law_ttable) (sc := defScope st__law_ttable) (by decide +kernel)) (fun _ _ _ _ _ => ⟨_, (dn 9 sc__law_ttable.nd)⟩) rfl (fun _ _ _ _ _ => ⟨_, ptsd_nil⟩) (fun _ _ _ _ _ => ⟨_, (d_mul (dv 9) (d_int Z.B (c_lt (pd_callO 0 D__law_tdraw (hr.mono (by decide : 41 ≤ 41)) (pad_cons pd_int pad_nil)) (dv 4))))⟩)))))))) (pssd_one (psd_ret (d_tuple Z.B (dv 5)))))))), WK__law_ttable⟩
abbrev st__law_tcarry : Stmt := topS 26
def N__law_tcarry : List Str := ["_law_table", "_law_some", "_law_a", "_law_b", "_law_line"]
theorem sc__law_tcarry : FnScope N__law_tcarry ["_law_table", "_law_some"] (defScope st__law_tcarry) := ⟨rfl, rfl, rfl, by decide +kernel, rfl, by decide +kernel, by decide +kernel⟩
theorem ok__law_tcarry (Z : Zu P mg base) {f : Addr} {fd : FuncData} (F : Fun K "_law_tcarry" "_law_tcarry" st__law_tcarry f fd) (hm : mg "_law_tcarry" = some (.ref f))  : Def P w K mg base 41 "_law_tcarry" 2 S__law_tcarry :=
  ok_fn F hm (F.binds fun _ _ _ _ _ _ us hl => match us, hl with | [_, _], _ => rfl) sc__law_tcarry Z.seer Z.tree rfl (by decide) (by decide) (fun _ => rfl) fun cdv A outer s H E hr hB =>
    ⟨_, W__law_tcarry, (pssd_one (psd_ret (pd_lcE (own := [("_law_line", 4)]) rfl sc__law_tcarry.nd (pid_sq (dv 0)) (blkOk_by (N := N__law_tcarry) (sc := defScope st__law_tcarry) (by decide +kernel)) (fun _ _ _ _ _ => ⟨_, (dn 4 sc__law_tcarry.nd)⟩) rfl (fun _ _ _ _ _ => ⟨_, ptsd_nil⟩) (fun _ _ _ _ _ => ⟨_, (d_sum Z.B rfl (pd_lcE (own := [("_law_a", 2), ("_law_b", 3)]) rfl sc__law_tcarry.nd (i_zip Z.B (dv 4) (dv 1)) (blkOk_by (N := N__law_tcarry) (sc := relS _ (defScope st__law_tcarry)) (by decide +kernel)) (fun _ _ _ _ _ => ⟨_, (pgd_tup rfl (pgsd_cons (dn 2 sc__law_tcarry.nd) (pgsd_cons (dn 3 sc__law_tcarry.nd) pgsd_nil)))⟩) rfl (fun _ _ _ _ _ => ⟨_, ptsd_nil⟩) (fun _ _ _ _ _ => ⟨_, (d_mul (dv 2) (dv 3))⟩)))⟩)))), WK__law_tcarry⟩
abbrev st__law_tturned : Stmt := topS 27
def N__law_tturned : List Str := ["_law_table", "_law_line", "_law_k"]
theorem sc__law_tturned : FnScope N__law_tturned ["_law_table"] (defScope st__law_tturned) := ⟨rfl, rfl, rfl, by decide +kernel, rfl, by decide +kernel, by decide +kernel⟩
theorem ok__law_tturned (Z : Zu P mg base) {f : Addr} {fd : FuncData} (F : Fun K "_law_tturned" "_law_tturned" st__law_tturned f fd) (hm : mg "_law_tturned" = some (.ref f))  : Def P w K mg base 41 "_law_tturned" 1 S__law_tturned :=
  ok_fn F hm (F.binds fun _ _ _ _ _ _ us hl => match us, hl with | [_], _ => rfl) sc__law_tturned Z.seer Z.tree rfl (by decide) (by decide) (fun _ => rfl) fun cdv A outer s H E hr hB =>
    ⟨_, W__law_tturned, (pssd_one (psd_ret (d_tuple Z.B (pd_lcE (own := [("_law_k", 2)]) rfl sc__law_tturned.nd (i_rng1 Z.B (pd_q (pq_len Z.B (pq_var 0)))) (blkOk_by (N := N__law_tturned) (sc := defScope st__law_tturned) (by decide +kernel)) (fun _ _ _ _ _ => ⟨_, (dn 2 sc__law_tturned.nd)⟩) rfl (fun _ _ _ _ _ => ⟨_, ptsd_nil⟩) (fun _ _ _ _ _ => ⟨_, (d_tuple Z.B (pd_lcE (own := [("_law_line", 1)]) rfl sc__law_tturned.nd (pid_sq (dv 0)) (blkOk_by (N := N__law_tturned) (sc := relS _ (defScope st__law_tturned)) (by decide +kernel)) (fun _ _ _ _ _ => ⟨_, (dn 1 sc__law_tturned.nd)⟩) rfl (fun _ _ _ _ _ => ⟨_, ptsd_nil⟩) (fun _ _ _ _ _ => ⟨_, (pd_q (pq_ix (pq_var 1) (pq_var 2)))⟩)))⟩))))), WK__law_tturned⟩
abbrev st__law_tput : Stmt := topS 28
def N__law_tput : List Str := ["_law_some", "_law_order", "_law_k"]
theorem sc__law_tput : FnScope N__law_tput ["_law_some", "_law_order"] (defScope st__law_tput) := ⟨rfl, rfl, rfl, by decide +kernel, rfl, by decide +kernel, by decide +kernel⟩
theorem ok__law_tput (Z : Zu P mg base) {f : Addr} {fd : FuncData} (F : Fun K "_law_tput" "_law_tput" st__law_tput f fd) (hm : mg "_law_tput" = some (.ref f))  : Def P w K mg base 41 "_law_tput" 2 S__law_tput :=
  ok_fn F hm (F.binds fun _ _ _ _ _ _ us hl => match us, hl with | [_, _], _ => rfl) sc__law_tput Z.seer Z.tree rfl (by decide) (by decide) (fun _ => rfl) fun cdv A outer s H E hr hB =>
    ⟨_, W__law_tput, (pssd_one (psd_ret (d_tuple Z.B (pd_lcE (own := [("_law_k", 2)]) rfl sc__law_tput.nd (pid_sq (dv 1)) (blkOk_by (N := N__law_tput) (sc := defScope st__law_tput) (by decide +kernel)) (fun _ _ _ _ _ => ⟨_, (dn 2 sc__law_tput.nd)⟩) rfl (fun _ _ _ _ _ => ⟨_, ptsd_nil⟩) (fun _ _ _ _ _ => ⟨_, (pd_q (pq_ix (pq_var 0) (pq_var 2)))⟩))))), WK__law_tput⟩
abbrev st__law_tproduct : Stmt := topS 29
def N__law_tproduct : List Str := ["_law_one", "_law_other", "_law_turned", "_law_line"]
theorem sc__law_tproduct : FnScope N__law_tproduct ["_law_one", "_law_other"] (defScope st__law_tproduct) := ⟨rfl, rfl, rfl, by decide +kernel, rfl, by decide +kernel, by decide +kernel⟩
theorem ok__law_tproduct (Z : Zu P mg base) {f : Addr} {fd : FuncData} (F : Fun K "_law_tproduct" "_law_tproduct" st__law_tproduct f fd) (hm : mg "_law_tproduct" = some (.ref f)) (D__law_tcarry : Def P w K mg base 41 "_law_tcarry" 2 S__law_tcarry) (D__law_tturned : Def P w K mg base 41 "_law_tturned" 1 S__law_tturned) : Def P w K mg base 42 "_law_tproduct" 2 S__law_tproduct :=
  ok_fn F hm (F.binds fun _ _ _ _ _ _ us hl => match us, hl with | [_, _], _ => rfl) sc__law_tproduct Z.seer Z.tree rfl (by decide) (by decide) (fun _ => rfl) fun cdv A outer s H E hr hB =>
    ⟨_, W__law_tproduct, (pssd_cons (ds 2 sc__law_tproduct.nd (d_call D__law_tturned (hr.mono (by decide : 41 ≤ 41)) (pad_cons (dv 1) pad_nil))) (pssd_one (psd_ret (d_tuple Z.B (pd_lcE (own := [("_law_line", 3)]) rfl sc__law_tproduct.nd (pid_sq (dv 0)) (blkOk_by (N := N__law_tproduct) (sc := defScope st__law_tproduct) (by decide +kernel)) (fun _ _ _ _ _ => ⟨_, (dn 3 sc__law_tproduct.nd)⟩) rfl (fun _ _ _ _ _ => ⟨_, ptsd_nil⟩) (fun _ _ _ _ _ => ⟨_, (d_tuple Z.B (d_call D__law_tcarry (hr.mono (by decide : 41 ≤ 41)) (pad_cons (dv 2) (pad_cons (dv 3) pad_nil))))⟩)))))), WK__law_tproduct⟩
abbrev st_law : Stmt := topS 30
def N_law : List Str := ["_law_script", "_law_pen", "_law_turn", "_law_table", "_law_size", "_law_begin", "_law_line", "_law_weights", "_law_left", "_law_order", "_law_k", "_law_moved", "_law_due", "_law_over", "_law_other", "_law_j", "_law_one", "_law_two"]
theorem sc_law : FnScope N_law ["_law_script"] (defScope st_law) := ⟨rfl, rfl, rfl, by decide +kernel, rfl, by decide +kernel, by decide +kernel⟩
theorem ok_law (Z : Zu P mg base) {f : Addr} {fd : FuncData} (F : Fun K "law" "law" st_law f fd) (hm : mg "law" = some (.ref f)) (D__law_tdraw : DefO P w K mg base 41 "_law_tdraw" 2 S__law_tdraw) (D__law_tpen : DefR P w K mg base 41 "_law_tpen"  S__law_tpen) (D__law_tproduct : Def P w K mg base 42 "_law_tproduct" 2 S__law_tproduct) (D__law_tput : Def P w K mg base 41 "_law_tput" 2 S__law_tput) (D__law_ttable : DefO P w K mg base 42 "_law_ttable" 3 S__law_ttable) (D__law_tturned : Def P w K mg base 41 "_law_tturned" 1 S__law_tturned) (D_own_poly : Def P w K mg base 42 "own_poly" 1 S_own_poly) (D_row_of : Def P w K mg base 47 "row_of" 3 S_row_of) (D_traces : Def P w K mg base 47 "traces" 1 S_traces) : FnOk P w K mg base CX0 48 f fd ["_law_script"] (spR K S_law) :=
  fn_okR F hm (F.binds fun _ _ _ _ _ _ us hl => match us, hl with | [_], _ => rfl) sc_law Z.seer Z.tree (by decide) (by decide) fun cdv A outer s H E hr hB =>
    ⟨_, W_law, (pssd_cons (ds 1 sc_law.nd (pd_callR 0 D__law_tpen (hr.mono (by decide : 41 ≤ 47)))) (pssd_cons (psd_for PassesOwn.never rfl (i_rng1 Z.B pd_int) (dn 2 sc_law.nd) (pssd_cons (ds 3 sc_law.nd (pd_callO 1 D__law_ttable (hr.mono (by decide : 42 ≤ 47)) (pad_cons pd_int (pad_cons pd_int pad_nil)))) (pssd_cons (ds 4 sc_law.nd (pd_q (pq_len Z.B (pq_var 3)))) (pssd_cons (ds 5 sc_law.nd (d_tuple Z.B (pd_lcE (own := [("_law_line", 6)]) rfl sc_law.nd (pid_sq (dv 3)) (blkOk_by (N := N_law) (sc := defScope st_law) (by decide +kernel)) (fun _ _ _ _ _ => ⟨_, (dn 6 sc_law.nd)⟩) rfl (fun _ _ _ _ _ => ⟨_, ptsd_nil⟩) (fun _ _ _ _ _ => ⟨_, (d_sub (pd_callO 1 D__law_tdraw (hr.mono (by decide : 41 ≤ 47)) (pad_cons pd_int pad_nil)) pd_int)⟩)))) (pssd_cons (ds 7 sc_law.nd (d_tuple Z.B (pd_lcE (own := [("_law_line", 6)]) rfl sc_law.nd (pid_sq (dv 3)) (blkOk_by (N := N_law) (sc := defScope st_law) (by decide +kernel)) (fun _ _ _ _ _ => ⟨_, (dn 6 sc_law.nd)⟩) rfl (fun _ _ _ _ _ => ⟨_, ptsd_nil⟩) (fun _ _ _ _ _ => ⟨_, (d_sub (pd_callO 1 D__law_tdraw (hr.mono (by decide : 41 ≤ 47)) (pad_cons pd_int pad_nil)) pd_int)⟩)))) (pssd_cons (ds 8 sc_law.nd (d_listRg Z.B rfl (dv 4))) (pssd_cons (ds 9 sc_law.nd (pd_lcE (own := [("_law_k", 10)]) rfl sc_law.nd (i_rng1 Z.B (dv 4)) (blkOk_by (N := N_law) (sc := defScope st_law) (by decide +kernel)) (fun _ _ _ _ _ => ⟨_, (dn 10 sc_law.nd)⟩) rfl (fun _ _ _ _ _ => ⟨_, ptsd_nil⟩) (fun _ _ _ _ _ => ⟨_, (d_popAt 8 (pd_callO 1 D__law_tdraw (hr.mono (by decide : 41 ≤ 47)) (pad_cons (pd_q (pq_len Z.B (pq_var 8))) pad_nil)))⟩))) (pssd_cons (ds 11 sc_law.nd (d_call D__law_tput (hr.mono (by decide : 41 ≤ 47)) (pad_cons (pd_lcE (own := [("_law_line", 6)]) rfl sc_law.nd (pid_sq (dv 3)) (blkOk_by (N := N_law) (sc := defScope st_law) (by decide +kernel)) (fun _ _ _ _ _ => ⟨_, (dn 6 sc_law.nd)⟩) rfl (fun _ _ _ _ _ => ⟨_, ptsd_nil⟩) (fun _ _ _ _ _ => ⟨_, (d_call D__law_tput (hr.mono (by decide : 41 ≤ 47)) (pad_cons (dv 6) (pad_cons (dv 9) pad_nil)))⟩)) (pad_cons (dv 9) pad_nil)))) (pssd_cons (ds 12 sc_law.nd (pd_tup (pad_cons (d_call D_own_poly (hr.mono (by decide : 42 ≤ 47)) (pad_cons (dv 3) pad_nil)) (pad_cons (d_call D_row_of (hr.mono (by decide : 47 ≤ 47)) (pad_cons (dv 3) (pad_cons (dv 5) (pad_cons (dv 7) pad_nil)))) (pad_cons (d_call D_traces (hr.mono (by decide : 47 ≤ 47)) (pad_cons (dv 3) pad_nil)) pad_nil))))) (pssd_cons (ds 13 sc_law.nd (d_call D__law_tturned (hr.mono (by decide : 41 ≤ 47)) (pad_cons (dv 3) pad_nil))) (pssd_cons (psd_if (t_ne hr (pd_tup (pad_cons (d_call D_own_poly (hr.mono (by decide : 42 ≤ 47)) (pad_cons (dv 13) pad_nil)) (pad_cons (d_call D_row_of (hr.mono (by decide : 47 ≤ 47)) (pad_cons (dv 13) (pad_cons (dv 7) (pad_cons (dv 5) pad_nil)))) (pad_cons (d_call D_traces (hr.mono (by decide : 47 ≤ 47)) (pad_cons (dv 13) pad_nil)) pad_nil)))) (dv 12)) (pssd_one (psd_ret pd_bl)) pssd_nil) (pssd_cons (psd_par 5 7 rfl sc_law.nd (d_call D__law_tput (hr.mono (by decide : 41 ≤ 47)) (pad_cons (dv 5) (pad_cons (dv 9) pad_nil))) (d_call D__law_tput (hr.mono (by decide : 41 ≤ 47)) (pad_cons (dv 7) (pad_cons (dv 9) pad_nil)))) (pssd_cons (psd_if (t_ne hr (pd_tup (pad_cons (d_call D_own_poly (hr.mono (by decide : 42 ≤ 47)) (pad_cons (dv 11) pad_nil)) (pad_cons (d_call D_row_of (hr.mono (by decide : 47 ≤ 47)) (pad_cons (dv 11) (pad_cons (dv 5) (pad_cons (dv 7) pad_nil)))) (pad_cons (d_call D_traces (hr.mono (by decide : 47 ≤ 47)) (pad_cons (dv 11) pad_nil)) pad_nil)))) (dv 12)) (pssd_one (psd_ret pd_bl)) pssd_nil) (pssd_cons (ds 14 sc_law.nd (d_tuple Z.B (pd_lcE (own := [("_law_k", 10)]) rfl sc_law.nd (i_rng1 Z.B (dv 4)) (blkOk_by (N := N_law) (sc := defScope st_law) (by decide +kernel)) (fun _ _ _ _ _ => ⟨_, (dn 10 sc_law.nd)⟩) rfl (fun _ _ _ _ _ => ⟨_, ptsd_nil⟩) (fun _ _ _ _ _ => ⟨_, (d_tuple Z.B (pd_lcE (own := [("_law_j", 15)]) rfl sc_law.nd (i_rng1 Z.B (dv 4)) (blkOk_by (N := N_law) (sc := relS _ (defScope st_law)) (by decide +kernel)) (fun _ _ _ _ _ => ⟨_, (dn 15 sc_law.nd)⟩) rfl (fun _ _ _ _ _ => ⟨_, ptsd_nil⟩) (fun _ _ _ _ _ => ⟨_, (d_sub (pd_callO 1 D__law_tdraw (hr.mono (by decide : 41 ≤ 47)) (pad_cons pd_int pad_nil)) pd_int)⟩)))⟩)))) (pssd_cons (psd_par 16 17 rfl sc_law.nd (d_call D__law_tproduct (hr.mono (by decide : 42 ≤ 47)) (pad_cons (dv 3) (pad_cons (dv 14) pad_nil))) (d_call D__law_tproduct (hr.mono (by decide : 42 ≤ 47)) (pad_cons (dv 14) (pad_cons (dv 3) pad_nil)))) (pssd_one (psd_if (pwd_or (t_ne hr (d_call D_own_poly (hr.mono (by decide : 42 ≤ 47)) (pad_cons (dv 16) pad_nil)) (d_call D_own_poly (hr.mono (by decide : 42 ≤ 47)) (pad_cons (dv 17) pad_nil))) (pwd_or1 (t_ne hr (d_call D_traces (hr.mono (by decide : 47 ≤ 47)) (pad_cons (dv 16) pad_nil)) (d_call D_traces (hr.mono (by decide : 47 ≤ 47)) (pad_cons (dv 17) pad_nil))))).pt (pssd_one (psd_ret pd_bl)) pssd_nil))))))))))))))))) (pssd_one (psd_ret pd_bl)))), WK_law⟩
end
end RT
end
section
namespace RT
open PySem PySem.Spec PyProof.Rows L2 DL
theorem lawAt_mk {K : PySem.W.Frag} {h : Heap} {f : Addr} {oc : Value} {od an : Option Addr} {osl : Array (Option Value)} {kV doc pm cdv ct : Value} (X : K.In h) (a : PySem.W.nsIn K mainGlobals "law" = some (some (.ref f)))
    (l : K.lookup f = some ⟨oc, od, .func (PySem.W.fnOf "law" "law" (defArgs st_law) (defBody st_law) (defScope st_law) .none kV doc pm an cdv ct), osl⟩) (c : PySem.W.codeIn K cdv "law" = true) (k : PySem.W.keepIn K (.ref f) = true) :
    LawAt K st_law "_law_script" := ⟨⟨f, _, fun_mk l c k, a, fun s v => .of_eq rfl⟩⟩
theorem hsp (K : PySem.W.Frag) (H : Hp) (a : Addr) (ns : List Int) (hl : ns.length ≤ 63) (hS : SqL K H a (ns.map V.int)) : spR K S_law [.ref a] H (fun v _ => v = .bl true) fun _ _ _ => False := by
  refine ⟨H, ns, a, rfl, hS, Same.refl H, hl, fun r v H2 F2 A hp _ _ _ ht _ _ => ?_⟩
  have hp : r = .d (.bool true) := hp
  subst hp
  cases ht with
  | d q => cases q; rfl
theorem prm {P : Program} {w : World} {K : PySem.W.Frag} {h : Heap} {mg : Str → Option Value} {fa : Addr} (tree : P.given.tree = none) (X : K.In h) (G : h.Ns mainGlobals mg) (B : Bl mg) (hfa : mg "law" = some (.ref fa)) (h_law : LawAt K st_law "_law_script")
    (h_trimmed : FnAt K "trimmed" st_trimmed)
    (h_divided : FnAt K "divided" st_divided)
    (h_divisor : FnAt K "divisor" st_divisor)
    (h_content : FnAt K "content" st_content)
    (h_lowest : FnAt K "lowest" st_lowest)
    (h_left_by : FnAt K "left_by" st_left_by)
    (h_common : FnAt K "common" st_common)
    (h_poly_of : FnAt K "poly_of" st_poly_of)
    (h_told_by : FnAt K "told_by" st_told_by)
    (h_upper : FnAt K "upper" st_upper)
    (h_least : FnAt K "least" st_least)
    (h_by : FnAt K "by" st_by)
    (h_power_sums : FnAt K "power_sums" st_power_sums)
    (h_carried : FnAt K "carried" st_carried)
    (h_multiplied_by : FnAt K "multiplied_by" st_multiplied_by)
    (h_own_poly : FnAt K "own_poly" st_own_poly)
    (h_row_of : FnAt K "row_of" st_row_of)
    (h_traces : FnAt K "traces" st_traces)
    (h__law_tpen : FnAt K "_law_tpen" st__law_tpen)
    (h__law_tdraw : FnAt K "_law_tdraw" st__law_tdraw)
    (h__law_ttable : FnAt K "_law_ttable" st__law_ttable)
    (h__law_tcarry : FnAt K "_law_tcarry" st__law_tcarry)
    (h__law_tturned : FnAt K "_law_tturned" st__law_tturned)
    (h__law_tput : FnAt K "_law_tput" st__law_tput)
    (h__law_tproduct : FnAt K "_law_tproduct" st__law_tproduct)
    : Prm P w K 48 63 "_law_script" mg fa (spR K S_law) := by
  obtain ⟨f_law, fd_law, F_law, a_law, b_law⟩ := h_law.ex
  have m_law := PySem.W.mg_of X G a_law
  have e := hfa.symm.trans m_law
  cases e
  obtain ⟨f_trimmed, fd_trimmed, F_trimmed, a_trimmed⟩ := h_trimmed.ex
  have m_trimmed := PySem.W.mg_of X G a_trimmed
  obtain ⟨f_divided, fd_divided, F_divided, a_divided⟩ := h_divided.ex
  have m_divided := PySem.W.mg_of X G a_divided
  obtain ⟨f_divisor, fd_divisor, F_divisor, a_divisor⟩ := h_divisor.ex
  have m_divisor := PySem.W.mg_of X G a_divisor
  obtain ⟨f_content, fd_content, F_content, a_content⟩ := h_content.ex
  have m_content := PySem.W.mg_of X G a_content
  obtain ⟨f_lowest, fd_lowest, F_lowest, a_lowest⟩ := h_lowest.ex
  have m_lowest := PySem.W.mg_of X G a_lowest
  obtain ⟨f_left_by, fd_left_by, F_left_by, a_left_by⟩ := h_left_by.ex
  have m_left_by := PySem.W.mg_of X G a_left_by
  obtain ⟨f_common, fd_common, F_common, a_common⟩ := h_common.ex
  have m_common := PySem.W.mg_of X G a_common
  obtain ⟨f_poly_of, fd_poly_of, F_poly_of, a_poly_of⟩ := h_poly_of.ex
  have m_poly_of := PySem.W.mg_of X G a_poly_of
  obtain ⟨f_told_by, fd_told_by, F_told_by, a_told_by⟩ := h_told_by.ex
  have m_told_by := PySem.W.mg_of X G a_told_by
  obtain ⟨f_upper, fd_upper, F_upper, a_upper⟩ := h_upper.ex
  have m_upper := PySem.W.mg_of X G a_upper
  obtain ⟨f_least, fd_least, F_least, a_least⟩ := h_least.ex
  have m_least := PySem.W.mg_of X G a_least
  obtain ⟨f_by, fd_by, F_by, a_by⟩ := h_by.ex
  have m_by := PySem.W.mg_of X G a_by
  obtain ⟨f_power_sums, fd_power_sums, F_power_sums, a_power_sums⟩ := h_power_sums.ex
  have m_power_sums := PySem.W.mg_of X G a_power_sums
  obtain ⟨f_carried, fd_carried, F_carried, a_carried⟩ := h_carried.ex
  have m_carried := PySem.W.mg_of X G a_carried
  obtain ⟨f_multiplied_by, fd_multiplied_by, F_multiplied_by, a_multiplied_by⟩ := h_multiplied_by.ex
  have m_multiplied_by := PySem.W.mg_of X G a_multiplied_by
  obtain ⟨f_own_poly, fd_own_poly, F_own_poly, a_own_poly⟩ := h_own_poly.ex
  have m_own_poly := PySem.W.mg_of X G a_own_poly
  obtain ⟨f_row_of, fd_row_of, F_row_of, a_row_of⟩ := h_row_of.ex
  have m_row_of := PySem.W.mg_of X G a_row_of
  obtain ⟨f_traces, fd_traces, F_traces, a_traces⟩ := h_traces.ex
  have m_traces := PySem.W.mg_of X G a_traces
  obtain ⟨f__law_tpen, fd__law_tpen, F__law_tpen, a__law_tpen⟩ := h__law_tpen.ex
  have m__law_tpen := PySem.W.mg_of X G a__law_tpen
  obtain ⟨f__law_tdraw, fd__law_tdraw, F__law_tdraw, a__law_tdraw⟩ := h__law_tdraw.ex
  have m__law_tdraw := PySem.W.mg_of X G a__law_tdraw
  obtain ⟨f__law_ttable, fd__law_ttable, F__law_ttable, a__law_ttable⟩ := h__law_ttable.ex
  have m__law_ttable := PySem.W.mg_of X G a__law_ttable
  obtain ⟨f__law_tcarry, fd__law_tcarry, F__law_tcarry, a__law_tcarry⟩ := h__law_tcarry.ex
  have m__law_tcarry := PySem.W.mg_of X G a__law_tcarry
  obtain ⟨f__law_tturned, fd__law_tturned, F__law_tturned, a__law_tturned⟩ := h__law_tturned.ex
  have m__law_tturned := PySem.W.mg_of X G a__law_tturned
  obtain ⟨f__law_tput, fd__law_tput, F__law_tput, a__law_tput⟩ := h__law_tput.ex
  have m__law_tput := PySem.W.mg_of X G a__law_tput
  obtain ⟨f__law_tproduct, fd__law_tproduct, F__law_tproduct, a__law_tproduct⟩ := h__law_tproduct.ex
  have m__law_tproduct := PySem.W.mg_of X G a__law_tproduct
  refine ⟨fd_law, b_law, fun base KB GB SB => ?_⟩
  have Z : Zu P mg base := ⟨SB, tree, B⟩
  have D_trimmed := ok_trimmed (w := w) Z F_trimmed m_trimmed 
  have D_divided := ok_divided (w := w) Z F_divided m_divided D_trimmed
  have D_divisor := ok_divisor (w := w) Z F_divisor m_divisor 
  have D_content := ok_content (w := w) Z F_content m_content D_divisor
  have D_lowest := ok_lowest (w := w) Z F_lowest m_lowest D_content
  have D_left_by := ok_left_by (w := w) Z F_left_by m_left_by D_content D_trimmed
  have D_common := ok_common (w := w) Z F_common m_common D_left_by D_lowest
  have D_poly_of := ok_poly_of (w := w) Z F_poly_of m_poly_of 
  have D_told_by := ok_told_by (w := w) Z F_told_by m_told_by 
  have D_upper := ok_upper (w := w) Z F_upper m_upper D_trimmed
  have D_least := ok_least (w := w) Z F_least m_least D_common D_divided D_poly_of D_told_by D_upper
  have D_by := ok_by (w := w) Z F_by m_by D_least D_told_by
  have D_power_sums := ok_power_sums (w := w) Z F_power_sums m_power_sums 
  have D_carried := ok_carried (w := w) Z F_carried m_carried 
  have D_multiplied_by := ok_multiplied_by (w := w) Z F_multiplied_by m_multiplied_by 
  have D_own_poly := ok_own_poly (w := w) Z F_own_poly m_own_poly D_multiplied_by
  have D_row_of := ok_row_of (w := w) Z F_row_of m_row_of D_by D_carried D_own_poly
  have D_traces := ok_traces (w := w) Z F_traces m_traces D_by D_own_poly D_power_sums
  have D__law_tpen := ok__law_tpen (w := w) Z F__law_tpen m__law_tpen 
  have D__law_tdraw := ok__law_tdraw (w := w) Z F__law_tdraw m__law_tdraw 
  have D__law_ttable := ok__law_ttable (w := w) Z F__law_ttable m__law_ttable D__law_tdraw
  have D__law_tcarry := ok__law_tcarry (w := w) Z F__law_tcarry m__law_tcarry 
  have D__law_tturned := ok__law_tturned (w := w) Z F__law_tturned m__law_tturned 
  have D__law_tput := ok__law_tput (w := w) Z F__law_tput m__law_tput 
  have D__law_tproduct := ok__law_tproduct (w := w) Z F__law_tproduct m__law_tproduct D__law_tcarry D__law_tturned
  exact ok_law Z F_law m_law D__law_tdraw D__law_tpen D__law_tproduct D__law_tput D__law_ttable D__law_tturned D_own_poly D_row_of D_traces
end RT
end

open PySem PySem.W PyProof.Rows DL in
set_option maxRecDepth 100000 in
set_option maxHeartbeats 0 in
theorem PySem.Challenge.cw_rowtide_k62_whole_tables_turned_holds : PySem.Challenge.rw_rowtide_k62_whole_tables_turned.Holds := by
  w_on; o_law; k_head; (case hw => w_witness2)
  k_fill
  refine DL.walk_seen (l := PySem.Challenge.rw_rowtide_k62_whole_tables_turned) (n := 63) (k := 48) (x := "_law_script") (sp := fun K => DL.spR K RT.S_law) rfl (by decide) rfl (by decide +kernel) ⟨rfl, by decide, by decide⟩ (fun w h Y => PySem.W.kIn_of Y) ?F RT.hsp
  case F =>
    intro w mg fa h KX G hmg
    have B : Bl mg := by
      refine' ⟨none_mk KX G ?b0, none_mk KX G ?b1, none_mk KX G ?b2, none_mk KX G ?b3, none_mk KX G ?b4, none_mk KX G ?b5, none_mk KX G ?b6, none_mk KX G ?b7, none_mk KX G ?b8, none_mk KX G ?b9, none_mk KX G ?b10, none_mk KX G ?b11, none_mk KX G ?b12, none_mk KX G ?b13, none_mk KX G ?b14, none_mk KX G ?b15, none_mk KX G ?b16, none_mk KX G ?b17, none_mk KX G ?b18⟩
      (case b0 => k_is)
      (case b1 => k_is)
      (case b2 => k_is)
      (case b3 => k_is)
      (case b4 => k_is)
      (case b5 => k_is)
      (case b6 => k_is)
      (case b7 => k_is)
      (case b8 => k_is)
      (case b9 => k_is)
      (case b10 => k_is)
      (case b11 => k_is)
      (case b12 => k_is)
      (case b13 => k_is)
      (case b14 => k_is)
      (case b15 => k_is)
      (case b16 => k_is)
      (case b17 => k_is)
      (case b18 => k_is)
    have h_law := by
      refine' RT.lawAt_mk KX ?a ?l ?c ?k
      (case a => k_is)
      (case l => k_is)
      (case c => k_is)
      (case k => k_is)
    have h_trimmed := by
      refine' fnAt_mk (x := "trimmed") (st := RT.st_trimmed) KX ?a ?l ?c ?k
      (case a => k_is)
      (case l => k_is)
      (case c => k_is)
      (case k => k_is)
    have h_divided := by
      refine' fnAt_mk (x := "divided") (st := RT.st_divided) KX ?a ?l ?c ?k
      (case a => k_is)
      (case l => k_is)
      (case c => k_is)
      (case k => k_is)
    have h_divisor := by
      refine' fnAt_mk (x := "divisor") (st := RT.st_divisor) KX ?a ?l ?c ?k
      (case a => k_is)
      (case l => k_is)
      (case c => k_is)
      (case k => k_is)
    have h_content := by
      refine' fnAt_mk (x := "content") (st := RT.st_content) KX ?a ?l ?c ?k
      (case a => k_is)
      (case l => k_is)
      (case c => k_is)
      (case k => k_is)
    have h_lowest := by
      refine' fnAt_mk (x := "lowest") (st := RT.st_lowest) KX ?a ?l ?c ?k
      (case a => k_is)
      (case l => k_is)
      (case c => k_is)
      (case k => k_is)
    have h_left_by := by
      refine' fnAt_mk (x := "left_by") (st := RT.st_left_by) KX ?a ?l ?c ?k
      (case a => k_is)
      (case l => k_is)
      (case c => k_is)
      (case k => k_is)
    have h_common := by
      refine' fnAt_mk (x := "common") (st := RT.st_common) KX ?a ?l ?c ?k
      (case a => k_is)
      (case l => k_is)
      (case c => k_is)
      (case k => k_is)
    have h_poly_of := by
      refine' fnAt_mk (x := "poly_of") (st := RT.st_poly_of) KX ?a ?l ?c ?k
      (case a => k_is)
      (case l => k_is)
      (case c => k_is)
      (case k => k_is)
    have h_told_by := by
      refine' fnAt_mk (x := "told_by") (st := RT.st_told_by) KX ?a ?l ?c ?k
      (case a => k_is)
      (case l => k_is)
      (case c => k_is)
      (case k => k_is)
    have h_upper := by
      refine' fnAt_mk (x := "upper") (st := RT.st_upper) KX ?a ?l ?c ?k
      (case a => k_is)
      (case l => k_is)
      (case c => k_is)
      (case k => k_is)
    have h_least := by
      refine' fnAt_mk (x := "least") (st := RT.st_least) KX ?a ?l ?c ?k
      (case a => k_is)
      (case l => k_is)
      (case c => k_is)
      (case k => k_is)
    have h_by := by
      refine' fnAt_mk (x := "by") (st := RT.st_by) KX ?a ?l ?c ?k
      (case a => k_is)
      (case l => k_is)
      (case c => k_is)
      (case k => k_is)
    have h_power_sums := by
      refine' fnAt_mk (x := "power_sums") (st := RT.st_power_sums) KX ?a ?l ?c ?k
      (case a => k_is)
      (case l => k_is)
      (case c => k_is)
      (case k => k_is)
    have h_carried := by
      refine' fnAt_mk (x := "carried") (st := RT.st_carried) KX ?a ?l ?c ?k
      (case a => k_is)
      (case l => k_is)
      (case c => k_is)
      (case k => k_is)
    have h_multiplied_by := by
      refine' fnAt_mk (x := "multiplied_by") (st := RT.st_multiplied_by) KX ?a ?l ?c ?k
      (case a => k_is)
      (case l => k_is)
      (case c => k_is)
      (case k => k_is)
    have h_own_poly := by
      refine' fnAt_mk (x := "own_poly") (st := RT.st_own_poly) KX ?a ?l ?c ?k
      (case a => k_is)
      (case l => k_is)
      (case c => k_is)
      (case k => k_is)
    have h_row_of := by
      refine' fnAt_mk (x := "row_of") (st := RT.st_row_of) KX ?a ?l ?c ?k
      (case a => k_is)
      (case l => k_is)
      (case c => k_is)
      (case k => k_is)
    have h_traces := by
      refine' fnAt_mk (x := "traces") (st := RT.st_traces) KX ?a ?l ?c ?k
      (case a => k_is)
      (case l => k_is)
      (case c => k_is)
      (case k => k_is)
    have h__law_tpen := by
      refine' fnAt_mk (x := "_law_tpen") (st := RT.st__law_tpen) KX ?a ?l ?c ?k
      (case a => k_is)
      (case l => k_is)
      (case c => k_is)
      (case k => k_is)
    have h__law_tdraw := by
      refine' fnAt_mk (x := "_law_tdraw") (st := RT.st__law_tdraw) KX ?a ?l ?c ?k
      (case a => k_is)
      (case l => k_is)
      (case c => k_is)
      (case k => k_is)
    have h__law_ttable := by
      refine' fnAt_mk (x := "_law_ttable") (st := RT.st__law_ttable) KX ?a ?l ?c ?k
      (case a => k_is)
      (case l => k_is)
      (case c => k_is)
      (case k => k_is)
    have h__law_tcarry := by
      refine' fnAt_mk (x := "_law_tcarry") (st := RT.st__law_tcarry) KX ?a ?l ?c ?k
      (case a => k_is)
      (case l => k_is)
      (case c => k_is)
      (case k => k_is)
    have h__law_tturned := by
      refine' fnAt_mk (x := "_law_tturned") (st := RT.st__law_tturned) KX ?a ?l ?c ?k
      (case a => k_is)
      (case l => k_is)
      (case c => k_is)
      (case k => k_is)
    have h__law_tput := by
      refine' fnAt_mk (x := "_law_tput") (st := RT.st__law_tput) KX ?a ?l ?c ?k
      (case a => k_is)
      (case l => k_is)
      (case c => k_is)
      (case k => k_is)
    have h__law_tproduct := by
      refine' fnAt_mk (x := "_law_tproduct") (st := RT.st__law_tproduct) KX ?a ?l ?c ?k
      (case a => k_is)
      (case l => k_is)
      (case c => k_is)
      (case k => k_is)
    exact RT.prm rfl KX G B hmg h_law h_trimmed h_divided h_divisor h_content h_lowest h_left_by h_common h_poly_of h_told_by h_upper h_least h_by h_power_sums h_carried h_multiplied_by h_own_poly h_row_of h_traces h__law_tpen h__law_tdraw h__law_ttable h__law_tcarry h__law_tturned h__law_tput h__law_tproduct
